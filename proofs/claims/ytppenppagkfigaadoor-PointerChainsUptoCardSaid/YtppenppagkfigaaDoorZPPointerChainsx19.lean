-- Written by shrink.py, a program of this session: what the law needs of the print and its words. Lean checks it.
import Derived.Test.YtppenppagkfigaaDoorZPPointerChainsx0
import Derived.Test.YtppenppagkfigaaDoorZPPointerChainsx1
import Derived.Test.YtppenppagkfigaaDoorZPPointerChainsx17
import Derived.Test.YtppenppagkfigaaDoorZPPointerChainsx18
namespace Go.Proofs.YtppenppagkfigaaDoor.PPointerChains
open Go.RowKit Go.Proofs.YtppenppagkfigaaDoorW.PrintWords Go.Proofs.YtppenppagkfigaaDoorW.PrintLast Go.Proofs.YtppenppagkfigaaDoorW.PrintMore
attribute [local go_sem] max2_int min2_int max_two min_two max_three min_three max_four min_four
set_option linter.unusedVariables false
set_option linter.unusedSimpArgs false
def quarrylaw20_awake.f (k : Nat)  : Option (Bool):=(quarrylaw20_small.f).bind fun bt211=>((pointer_Find.f k bt211.1 bt211.2.1 bt211.2.2.1 bt211.2.2.2.1 bt211.2.2.2.2.1 bt211.2.2.2.2.2 (⟨#[47,97,47,49,47]⟩ : ByteArray)).bind fun bt221=>((pointer_Parse.f (⟨#[97]⟩ : ByteArray)).bind fun bt234=>(if bt221.2.2.1.toList = ([55] : List UInt8) then (if bt221.2.2.2.2.2.2.1 = true then (if bt221.2.2.2.2.2.2.2 = 0 then (some (bt234.2 == 200)) else (some false)) else (some false)) else (some false))))
theorem quarrylaw20_awake.mono : ∀ k,LeO (quarrylaw20_awake.f k ) (quarrylaw20_awake.f (k + 1) ):=by
 intro  k
 unfold quarrylaw20_awake.f
 repeat' first
   | (with_reducible exact pointer_Find.mono _ _ _ _ _ _ _ _)
   | (with_reducible exact LeO.refl _)
   | (with_reducible exact LeO.none _)
   | (with_reducible refine LeO.ite ?_ ?_)
   | (with_reducible refine LeO.bind ?_ (fun _=>?_))
   | exact LeO.none _
   | refine LeO.ite ?_ ?_
   | refine LeO.bind ?_ (fun _=>?_)
set_option maxHeartbeats 8000000 in
set_option maxRecDepth 100000 in
theorem quarrylaw20_awake.calls (k : Nat)  (r : Bool) (w : World) (h : quarrylaw20_awake.f k  = some r) :
  Calls Tryd.prog 13 #[] w fun e w'=>e = .returned (.bool r) ∧ Below w.heap.size w w':=by
 have hu25:=Tryd.underlying25
 have HB:=Aside0.mk (Below.refl w.heap.size w)
 have H : ((quarrylaw20_small.f).bind fun bt211=>((pointer_Find.f k bt211.1 bt211.2.1 bt211.2.2.1 bt211.2.2.2.1 bt211.2.2.2.2.1 bt211.2.2.2.2.2 (⟨#[47,97,47,49,47]⟩ : ByteArray)).bind fun bt221=>((pointer_Parse.f (⟨#[97]⟩ : ByteArray)).bind fun bt234=>(if bt221.2.2.1.toList = ([55] : List UInt8) then (if bt221.2.2.2.2.2.2.1 = true then (if bt221.2.2.2.2.2.2.2 = 0 then (some (bt234.2 == 200)) else (some false)) else (some false)) else (some false))))) = some r:=h
 clear h
 replace H:=Option.bind_eq_some_iff.mp H
 obtain ⟨⟨t211,t212,t213,t214,t215,t218⟩,A10,H⟩:=H
 replace H : ((pointer_Find.f k t211 t212 t213 t214 t215 t218 (⟨#[47,97,47,49,47]⟩ : ByteArray)).bind fun bt221=>((pointer_Parse.f (⟨#[97]⟩ : ByteArray)).bind fun bt234=>(if bt221.2.2.1.toList = ([55] : List UInt8) then (if bt221.2.2.2.2.2.2.1 = true then (if bt221.2.2.2.2.2.2.2 = 0 then (some (bt234.2 == 200)) else (some false)) else (some false)) else (some false)))) = some r:=H
 have A1:=Aside0.mk A10
 clear A10
 replace H:=Option.bind_eq_some_iff.mp H
 obtain ⟨⟨t221,t222,t223,t224,t225,t228,t231,t232⟩,A20,H⟩:=H
 replace H : ((pointer_Parse.f (⟨#[97]⟩ : ByteArray)).bind fun bt234=>(if t223.toList = ([55] : List UInt8) then (if t231 = true then (if t232 = 0 then (some (bt234.2 == 200)) else (some false)) else (some false)) else (some false))) = some r:=H
 have A2:=Aside0.mk A20
 clear A20
 replace H:=Option.bind_eq_some_iff.mp H
 obtain ⟨⟨t234,t235⟩,A30,H⟩:=H
 replace H : (if t223.toList = ([55] : List UInt8) then (if t231 = true then (if t232 = 0 then (some (t235 == 200)) else (some false)) else (some false)) else (some false)) = some r:=H
 have A3:=Aside0.mk A30
 clear A30
 by_cases c4 : t223.toList = ([55] : List UInt8)
 ·rw [if_pos c4] at H
  have c4b0 : (t223.toList == ([55] : List UInt8)) = true:=beq_iff_eq.mpr c4
  have c4b1 : (t223.toList != ([55] : List UInt8)) = false:=bne_eq_false_iff_eq.mpr c4
  clear c4
  by_cases c5 : t231 = true
  ·subst c5
   have H1 : (if t232 = 0 then (some (t235 == 200)) else (some false)) = some r:=by rw [if_pos rfl] at H;exact H
   clear H
   have H:=H1
   clear H1
   by_cases c6 : t232 = 0
   ·rw [if_pos c6] at H
    have c6b0 : (t232 == 0) = true:=beq_iff_eq.mpr c6
    have c6b1 : (t232 != 0) = false:=bne_eq_false_iff_eq.mpr c6
    clear c6
    obtain rfl:=Option.some.inj H
    go_enter Tryd.func13,Tryd.ntmps13
    go_wp2_with (first|((with_reducible refine gate_callee (f:=9) rfl ?_);refine goesL_ (some 7) rfl rfl Tryd.func9 (by kernel_rfl) rfl #[] rfl am_ ?_;(with_reducible refine (quarrylaw20_small.calls  t211 t212 t213 t214 t215 t218 _ A1.out).mono ?_);rintro e w7 ⟨v216,v219,rfl,ho0,ho1,hb⟩;refine ⟨_,rfl,?_⟩;have n_:=J_ (Kd.V_lower (Kd.V_mono (ok':=fun k_=>True) ho0 (fun k_ hk_=>trivial)) (below_size (hb_ HB))) (J_ (Kd.V_lower (Kd.V_mono (ok':=fun k_=>True) ho1 (fun k_ hk_=>trivial)) (below_size (hb_ HB))) (Aside0.mk (below_step (hb_ HB) hb)));clear HB;obtain ⟨HO217,HO220,HB⟩:=n_;(try clear hb);(try clear hb2);(try clear hk);(try clear hi);(try clear ho0);(try clear ho1);obtain ⟨Ao8,co8,eo8⟩:=Kd.V_slice HO217.out;subst eo8;obtain ⟨Ao9,co9,eo9⟩:=Kd.V_slice HO220.out;subst eo9)|((with_reducible refine gate_callee (f:=8) rfl ?_);refine goesL_ (some 8) rfl rfl Tryd.func8 (by kernel_rfl) rfl #[.agg #[.int .i64 t211,.bool t212,.string t213,.string t214,.slice Ao8 t215.length co8,.slice Ao9 t218.length co9],.string (⟨#[47,97,47,49,47]⟩ : ByteArray)] rfl am_ ?_;(with_reducible refine (pointer_Find.calls k t211 t212 t213 t214 (fun k_=>True) _ _ t215 (fun k_=>True) _ _ t218 (⟨#[47,97,47,49,47]⟩ : ByteArray) t221 t222 t223 t224 t225 t228 true t232 _ ?side1 ?side2 A2.out).mono ?_);(case side1=>exact HO217.out);(case side2=>exact HO220.out);rintro e w10 ⟨v226,v229,rfl,ho0,ho1,hb⟩;refine ⟨_,rfl,?_⟩;have n_:=J_ (Kd.V_below (vk_ HO217) hb) (J_ (Kd.V_below (vk_ HO220) hb) (J_ (Kd.V_lower (Kd.V_mono (ok':=fun k_=>True) ho0 (fun k_ hk_=>trivial)) (below_size (hb_ HB))) (J_ (Kd.V_lower (Kd.V_mono (ok':=fun k_=>True) ho1 (fun k_ hk_=>trivial)) (below_size (hb_ HB))) (Aside0.mk (below_step (hb_ HB) hb)))));clear HO217 HO220 HB;obtain ⟨HO217,HO220,HO227,HO230,HB⟩:=n_;(try clear hb);(try clear hb2);(try clear hk);(try clear hi);(try clear ho0);(try clear ho1))|((with_reducible refine gate_dst (N:=1) rfl ?_);refine box_event ?hg (N:=1) ?hd (cs:=#[.int .i64 0,.bool false,.string (⟨#[]⟩ : ByteArray),.string (⟨#[]⟩ : ByteArray),.slice none 0 0,.slice none 0 0]) (t:=25) ?hr ?_;(case hd=>rfl);(case hg=>rfl);(case hr=>first|(go_simp;done)|(go_simp;rfl));intro gb233 hg w11 hbox hb;have n_:=J_ (Kd.V_below (Kd.V_elderB (vk_ HO217) gb233 (Nat.le_of_eq hg.symm)) hb) (J_ (Kd.V_below (Kd.V_elderB (vk_ HO220) gb233 (Nat.le_of_eq hg.symm)) hb) (J_ (Kd.V_below (Kd.V_elderB (vk_ HO227) gb233 (Nat.le_of_eq hg.symm)) hb) (J_ (Kd.V_below (Kd.V_elderB (vk_ HO230) gb233 (Nat.le_of_eq hg.symm)) hb) (J_ (below_step (hb_ HB) hb) (J_ (hbox) (J_ (bs_ hg HB) (Aside0.mk (bs_ hg HB))))))));clear HO217 HO220 HO227 HO230 HB;obtain ⟨HO217,HO220,HO227,HO230,HB,BK233,GW233,GE233⟩:=n_;clear hb hbox hg;obtain ⟨hcz12_0,hcz12_1,hcz12_2,hcz12_3,hcz12_4,hcz12_5,hfz12_0,hfz12_1,hfz12_2,hfz12_3,hfz12_4,hfz12_5⟩:=cf6_ BK233;obtain ⟨Ao13,co13,eo13⟩:=Kd.V_slice HO227.out;subst eo13;obtain ⟨Ao14,co14,eo14⟩:=Kd.V_slice HO230.out;subst eo14)|((with_reducible refine gate_callee (f:=15) rfl ?_);refine goesL_ (some 13) rfl rfl Tryd.func15 (by kernel_rfl) rfl #[.string (⟨#[97]⟩ : ByteArray)] rfl am_ ?_;(with_reducible refine (pointer_Parse.calls (⟨#[97]⟩ : ByteArray) t234 t235 _ A3.out).mono ?_);rintro e w15 ⟨v236,rfl,ho0,hb⟩;refine ⟨_,rfl,?_⟩;have n_:=J_ (Kd.V_elder' (by (with_reducible repeat (first|apply Kd.V_alloc|apply Kd.V_drewN|apply Kd.V_drew));exact (Kd.V_mono (vf6_ (g:=gb233) (Kd.V_mono HO217.out (fun k_ hk=>(⟨hk,hk.2⟩ : _ ∧ k_ ≠ gb233))) (fun _ hk=>hk.2)) (fun _ h_=>h_.1))) (Kd.R_base ho0) hb) (J_ (Kd.V_elder' (by (with_reducible repeat (first|apply Kd.V_alloc|apply Kd.V_drewN|apply Kd.V_drew));exact (Kd.V_mono (vf6_ (g:=gb233) (Kd.V_mono HO220.out (fun k_ hk=>(⟨hk,hk.2⟩ : _ ∧ k_ ≠ gb233))) (fun _ hk=>hk.2)) (fun _ h_=>h_.1))) (Kd.R_base ho0) hb) (J_ (Kd.V_elder' (by (with_reducible repeat (first|apply Kd.V_alloc|apply Kd.V_drewN|apply Kd.V_drew));exact (Kd.V_mono (vf6_ (g:=gb233) (Kd.V_mono HO227.out (fun k_ hk=>(⟨hk,hk.2⟩ : _ ∧ k_ ≠ gb233))) (fun _ hk=>hk.2)) (fun _ h_=>h_.1))) (Kd.R_base ho0) hb) (J_ (Kd.V_elder' (by (with_reducible repeat (first|apply Kd.V_alloc|apply Kd.V_drewN|apply Kd.V_drew));exact (Kd.V_mono (vf6_ (g:=gb233) (Kd.V_mono HO230.out (fun k_ hk=>(⟨hk,hk.2⟩ : _ ∧ k_ ≠ gb233))) (fun _ hk=>hk.2)) (fun _ h_=>h_.1))) (Kd.R_base ho0) hb) (J_ (Kd.R_lower ho0 (below_size (hb_ HB))) (J_ (blk_below (g:=gb233) (o:=.cells #[.int .i64 t221,.bool t222,.string t223,.string t224,.slice Ao13 t225.length co13,.slice Ao14 t228.length co14] 25 (0,0)) (by (with_reducible repeat (first|refine blk_drewN ?_ _|refine blk_drew ?_|refine blk_alloc ?_ _));refine bp_ (cs:=#[.int .i64 t221,.bool t222,.string t223,.string t224,.slice Ao13 t225.length co13,.slice none 0 0]) ?_ 5 _;refine bp_ (cs:=#[.int .i64 t221,.bool t222,.string t223,.string t224,.slice none 0 0,.slice none 0 0]) ?_ 4 _;refine bp_ (cs:=#[.int .i64 t221,.bool t222,.string t223,.string (⟨#[]⟩ : ByteArray),.slice none 0 0,.slice none 0 0]) ?_ 3 _;refine bp_ (cs:=#[.int .i64 t221,.bool t222,.string (⟨#[]⟩ : ByteArray),.string (⟨#[]⟩ : ByteArray),.slice none 0 0,.slice none 0 0]) ?_ 2 _;refine bp_ (cs:=#[.int .i64 t221,.bool false,.string (⟨#[]⟩ : ByteArray),.string (⟨#[]⟩ : ByteArray),.slice none 0 0,.slice none 0 0]) ?_ 1 _;refine bp_ (cs:=#[.int .i64 0,.bool false,.string (⟨#[]⟩ : ByteArray),.string (⟨#[]⟩ : ByteArray),.slice none 0 0,.slice none 0 0]) ?_ 0 _;(with_reducible repeat (first|refine blk_drewN ?_ _|refine blk_drew ?_|refine blk_alloc ?_ _));exact BK233.out) hb) (Aside0.mk (below_step (hb_ HB) hb)))))));clear HO217 HO220 HO227 HO230 BK233 HB;obtain ⟨HO217,HO220,HO227,HO230,HO237,BK233,HB⟩:=n_;(try clear hb);(try clear hb2);(try clear hk);(try clear hi);(try clear ho0);obtain ⟨hcz16_0,hcz16_1,hcz16_2,hcz16_3,hcz16_4,hcz16_5,hfz16_0,hfz16_1,hfz16_2,hfz16_3,hfz16_4,hfz16_5⟩:=cf6_ BK233))
    go_ret
    exact ⟨er_,(hb_ HB)⟩
   ·rw [if_neg c6] at H
    have c6b0 : (t232 == 0) = false:=beq_eq_false_iff_ne.mpr c6
    have c6b1 : (t232 != 0) = true:=bne_iff_ne.mpr c6
    obtain rfl:=Option.some.inj H
    go_enter Tryd.func13,Tryd.ntmps13
    go_wp2_with (first|((with_reducible refine gate_callee (f:=9) rfl ?_);refine goesL_ (some 7) rfl rfl Tryd.func9 (by kernel_rfl) rfl #[] rfl am_ ?_;(with_reducible refine (quarrylaw20_small.calls  t211 t212 t213 t214 t215 t218 _ A1.out).mono ?_);rintro e w17 ⟨v216,v219,rfl,ho0,ho1,hb⟩;refine ⟨_,rfl,?_⟩;have n_:=J_ (Kd.V_lower (Kd.V_mono (ok':=fun k_=>True) ho0 (fun k_ hk_=>trivial)) (below_size (hb_ HB))) (J_ (Kd.V_lower (Kd.V_mono (ok':=fun k_=>True) ho1 (fun k_ hk_=>trivial)) (below_size (hb_ HB))) (Aside0.mk (below_step (hb_ HB) hb)));clear HB;obtain ⟨HO217,HO220,HB⟩:=n_;(try clear hb);(try clear hb2);(try clear hk);(try clear hi);(try clear ho0);(try clear ho1);obtain ⟨Ao18,co18,eo18⟩:=Kd.V_slice HO217.out;subst eo18;obtain ⟨Ao19,co19,eo19⟩:=Kd.V_slice HO220.out;subst eo19)|((with_reducible refine gate_callee (f:=8) rfl ?_);refine goesL_ (some 8) rfl rfl Tryd.func8 (by kernel_rfl) rfl #[.agg #[.int .i64 t211,.bool t212,.string t213,.string t214,.slice Ao18 t215.length co18,.slice Ao19 t218.length co19],.string (⟨#[47,97,47,49,47]⟩ : ByteArray)] rfl am_ ?_;(with_reducible refine (pointer_Find.calls k t211 t212 t213 t214 (fun k_=>True) _ _ t215 (fun k_=>True) _ _ t218 (⟨#[47,97,47,49,47]⟩ : ByteArray) t221 t222 t223 t224 t225 t228 true t232 _ ?side1 ?side2 A2.out).mono ?_);(case side1=>exact HO217.out);(case side2=>exact HO220.out);rintro e w20 ⟨v226,v229,rfl,ho0,ho1,hb⟩;refine ⟨_,rfl,?_⟩;have n_:=J_ (Kd.V_below (vk_ HO217) hb) (J_ (Kd.V_below (vk_ HO220) hb) (J_ (Kd.V_lower (Kd.V_mono (ok':=fun k_=>True) ho0 (fun k_ hk_=>trivial)) (below_size (hb_ HB))) (J_ (Kd.V_lower (Kd.V_mono (ok':=fun k_=>True) ho1 (fun k_ hk_=>trivial)) (below_size (hb_ HB))) (Aside0.mk (below_step (hb_ HB) hb)))));clear HO217 HO220 HB;obtain ⟨HO217,HO220,HO227,HO230,HB⟩:=n_;(try clear hb);(try clear hb2);(try clear hk);(try clear hi);(try clear ho0);(try clear ho1))|((with_reducible refine gate_dst (N:=1) rfl ?_);refine box_event ?hg (N:=1) ?hd (cs:=#[.int .i64 0,.bool false,.string (⟨#[]⟩ : ByteArray),.string (⟨#[]⟩ : ByteArray),.slice none 0 0,.slice none 0 0]) (t:=25) ?hr ?_;(case hd=>rfl);(case hg=>rfl);(case hr=>first|(go_simp;done)|(go_simp;rfl));intro gb233 hg w21 hbox hb;have n_:=J_ (Kd.V_below (Kd.V_elderB (vk_ HO217) gb233 (Nat.le_of_eq hg.symm)) hb) (J_ (Kd.V_below (Kd.V_elderB (vk_ HO220) gb233 (Nat.le_of_eq hg.symm)) hb) (J_ (Kd.V_below (Kd.V_elderB (vk_ HO227) gb233 (Nat.le_of_eq hg.symm)) hb) (J_ (Kd.V_below (Kd.V_elderB (vk_ HO230) gb233 (Nat.le_of_eq hg.symm)) hb) (J_ (below_step (hb_ HB) hb) (J_ (hbox) (J_ (bs_ hg HB) (Aside0.mk (bs_ hg HB))))))));clear HO217 HO220 HO227 HO230 HB;obtain ⟨HO217,HO220,HO227,HO230,HB,BK233,GW233,GE233⟩:=n_;clear hb hbox hg;obtain ⟨hcz22_0,hcz22_1,hcz22_2,hcz22_3,hcz22_4,hcz22_5,hfz22_0,hfz22_1,hfz22_2,hfz22_3,hfz22_4,hfz22_5⟩:=cf6_ BK233;obtain ⟨Ao23,co23,eo23⟩:=Kd.V_slice HO227.out;subst eo23;obtain ⟨Ao24,co24,eo24⟩:=Kd.V_slice HO230.out;subst eo24)|((with_reducible refine gate_callee (f:=15) rfl ?_);refine goesL_ (some 13) rfl rfl Tryd.func15 (by kernel_rfl) rfl #[.string (⟨#[97]⟩ : ByteArray)] rfl am_ ?_;(with_reducible refine (pointer_Parse.calls (⟨#[97]⟩ : ByteArray) t234 t235 _ A3.out).mono ?_);rintro e w25 ⟨v236,rfl,ho0,hb⟩;refine ⟨_,rfl,?_⟩;have n_:=J_ (Kd.V_elder' (by (with_reducible repeat (first|apply Kd.V_alloc|apply Kd.V_drewN|apply Kd.V_drew));exact (Kd.V_mono (vf6_ (g:=gb233) (Kd.V_mono HO217.out (fun k_ hk=>(⟨hk,hk.2⟩ : _ ∧ k_ ≠ gb233))) (fun _ hk=>hk.2)) (fun _ h_=>h_.1))) (Kd.R_base ho0) hb) (J_ (Kd.V_elder' (by (with_reducible repeat (first|apply Kd.V_alloc|apply Kd.V_drewN|apply Kd.V_drew));exact (Kd.V_mono (vf6_ (g:=gb233) (Kd.V_mono HO220.out (fun k_ hk=>(⟨hk,hk.2⟩ : _ ∧ k_ ≠ gb233))) (fun _ hk=>hk.2)) (fun _ h_=>h_.1))) (Kd.R_base ho0) hb) (J_ (Kd.V_elder' (by (with_reducible repeat (first|apply Kd.V_alloc|apply Kd.V_drewN|apply Kd.V_drew));exact (Kd.V_mono (vf6_ (g:=gb233) (Kd.V_mono HO227.out (fun k_ hk=>(⟨hk,hk.2⟩ : _ ∧ k_ ≠ gb233))) (fun _ hk=>hk.2)) (fun _ h_=>h_.1))) (Kd.R_base ho0) hb) (J_ (Kd.V_elder' (by (with_reducible repeat (first|apply Kd.V_alloc|apply Kd.V_drewN|apply Kd.V_drew));exact (Kd.V_mono (vf6_ (g:=gb233) (Kd.V_mono HO230.out (fun k_ hk=>(⟨hk,hk.2⟩ : _ ∧ k_ ≠ gb233))) (fun _ hk=>hk.2)) (fun _ h_=>h_.1))) (Kd.R_base ho0) hb) (J_ (Kd.R_lower ho0 (below_size (hb_ HB))) (J_ (blk_below (g:=gb233) (o:=.cells #[.int .i64 t221,.bool t222,.string t223,.string t224,.slice Ao23 t225.length co23,.slice Ao24 t228.length co24] 25 (0,0)) (by (with_reducible repeat (first|refine blk_drewN ?_ _|refine blk_drew ?_|refine blk_alloc ?_ _));refine bp_ (cs:=#[.int .i64 t221,.bool t222,.string t223,.string t224,.slice Ao23 t225.length co23,.slice none 0 0]) ?_ 5 _;refine bp_ (cs:=#[.int .i64 t221,.bool t222,.string t223,.string t224,.slice none 0 0,.slice none 0 0]) ?_ 4 _;refine bp_ (cs:=#[.int .i64 t221,.bool t222,.string t223,.string (⟨#[]⟩ : ByteArray),.slice none 0 0,.slice none 0 0]) ?_ 3 _;refine bp_ (cs:=#[.int .i64 t221,.bool t222,.string (⟨#[]⟩ : ByteArray),.string (⟨#[]⟩ : ByteArray),.slice none 0 0,.slice none 0 0]) ?_ 2 _;refine bp_ (cs:=#[.int .i64 t221,.bool false,.string (⟨#[]⟩ : ByteArray),.string (⟨#[]⟩ : ByteArray),.slice none 0 0,.slice none 0 0]) ?_ 1 _;refine bp_ (cs:=#[.int .i64 0,.bool false,.string (⟨#[]⟩ : ByteArray),.string (⟨#[]⟩ : ByteArray),.slice none 0 0,.slice none 0 0]) ?_ 0 _;(with_reducible repeat (first|refine blk_drewN ?_ _|refine blk_drew ?_|refine blk_alloc ?_ _));exact BK233.out) hb) (Aside0.mk (below_step (hb_ HB) hb)))))));clear HO217 HO220 HO227 HO230 BK233 HB;obtain ⟨HO217,HO220,HO227,HO230,HO237,BK233,HB⟩:=n_;(try clear hb);(try clear hb2);(try clear hk);(try clear hi);(try clear ho0);obtain ⟨hcz26_0,hcz26_1,hcz26_2,hcz26_3,hcz26_4,hcz26_5,hfz26_0,hfz26_1,hfz26_2,hfz26_3,hfz26_4,hfz26_5⟩:=cf6_ BK233))
    go_ret
    exact ⟨er_,(hb_ HB)⟩
  ·replace c5:=Bool.eq_false_iff.mpr c5
   subst c5
   have H1 : (some false) = some r:=by rw [if_neg (show ¬ (false = true) by decide)] at H;exact H
   clear H
   have H:=H1
   clear H1
   obtain rfl:=Option.some.inj H
   go_enter Tryd.func13,Tryd.ntmps13
   go_wp2_with (first|((with_reducible refine gate_callee (f:=9) rfl ?_);refine goesL_ (some 7) rfl rfl Tryd.func9 (by kernel_rfl) rfl #[] rfl am_ ?_;(with_reducible refine (quarrylaw20_small.calls  t211 t212 t213 t214 t215 t218 _ A1.out).mono ?_);rintro e w27 ⟨v216,v219,rfl,ho0,ho1,hb⟩;refine ⟨_,rfl,?_⟩;have n_:=J_ (Kd.V_lower (Kd.V_mono (ok':=fun k_=>True) ho0 (fun k_ hk_=>trivial)) (below_size (hb_ HB))) (J_ (Kd.V_lower (Kd.V_mono (ok':=fun k_=>True) ho1 (fun k_ hk_=>trivial)) (below_size (hb_ HB))) (Aside0.mk (below_step (hb_ HB) hb)));clear HB;obtain ⟨HO217,HO220,HB⟩:=n_;(try clear hb);(try clear hb2);(try clear hk);(try clear hi);(try clear ho0);(try clear ho1);obtain ⟨Ao28,co28,eo28⟩:=Kd.V_slice HO217.out;subst eo28;obtain ⟨Ao29,co29,eo29⟩:=Kd.V_slice HO220.out;subst eo29)|((with_reducible refine gate_callee (f:=8) rfl ?_);refine goesL_ (some 8) rfl rfl Tryd.func8 (by kernel_rfl) rfl #[.agg #[.int .i64 t211,.bool t212,.string t213,.string t214,.slice Ao28 t215.length co28,.slice Ao29 t218.length co29],.string (⟨#[47,97,47,49,47]⟩ : ByteArray)] rfl am_ ?_;(with_reducible refine (pointer_Find.calls k t211 t212 t213 t214 (fun k_=>True) _ _ t215 (fun k_=>True) _ _ t218 (⟨#[47,97,47,49,47]⟩ : ByteArray) t221 t222 t223 t224 t225 t228 false t232 _ ?side1 ?side2 A2.out).mono ?_);(case side1=>exact HO217.out);(case side2=>exact HO220.out);rintro e w30 ⟨v226,v229,rfl,ho0,ho1,hb⟩;refine ⟨_,rfl,?_⟩;have n_:=J_ (Kd.V_below (vk_ HO217) hb) (J_ (Kd.V_below (vk_ HO220) hb) (J_ (Kd.V_lower (Kd.V_mono (ok':=fun k_=>True) ho0 (fun k_ hk_=>trivial)) (below_size (hb_ HB))) (J_ (Kd.V_lower (Kd.V_mono (ok':=fun k_=>True) ho1 (fun k_ hk_=>trivial)) (below_size (hb_ HB))) (Aside0.mk (below_step (hb_ HB) hb)))));clear HO217 HO220 HB;obtain ⟨HO217,HO220,HO227,HO230,HB⟩:=n_;(try clear hb);(try clear hb2);(try clear hk);(try clear hi);(try clear ho0);(try clear ho1))|((with_reducible refine gate_dst (N:=1) rfl ?_);refine box_event ?hg (N:=1) ?hd (cs:=#[.int .i64 0,.bool false,.string (⟨#[]⟩ : ByteArray),.string (⟨#[]⟩ : ByteArray),.slice none 0 0,.slice none 0 0]) (t:=25) ?hr ?_;(case hd=>rfl);(case hg=>rfl);(case hr=>first|(go_simp;done)|(go_simp;rfl));intro gb233 hg w31 hbox hb;have n_:=J_ (Kd.V_below (Kd.V_elderB (vk_ HO217) gb233 (Nat.le_of_eq hg.symm)) hb) (J_ (Kd.V_below (Kd.V_elderB (vk_ HO220) gb233 (Nat.le_of_eq hg.symm)) hb) (J_ (Kd.V_below (Kd.V_elderB (vk_ HO227) gb233 (Nat.le_of_eq hg.symm)) hb) (J_ (Kd.V_below (Kd.V_elderB (vk_ HO230) gb233 (Nat.le_of_eq hg.symm)) hb) (J_ (below_step (hb_ HB) hb) (J_ (hbox) (J_ (bs_ hg HB) (Aside0.mk (bs_ hg HB))))))));clear HO217 HO220 HO227 HO230 HB;obtain ⟨HO217,HO220,HO227,HO230,HB,BK233,GW233,GE233⟩:=n_;clear hb hbox hg;obtain ⟨hcz32_0,hcz32_1,hcz32_2,hcz32_3,hcz32_4,hcz32_5,hfz32_0,hfz32_1,hfz32_2,hfz32_3,hfz32_4,hfz32_5⟩:=cf6_ BK233;obtain ⟨Ao33,co33,eo33⟩:=Kd.V_slice HO227.out;subst eo33;obtain ⟨Ao34,co34,eo34⟩:=Kd.V_slice HO230.out;subst eo34)|((with_reducible refine gate_callee (f:=15) rfl ?_);refine goesL_ (some 13) rfl rfl Tryd.func15 (by kernel_rfl) rfl #[.string (⟨#[97]⟩ : ByteArray)] rfl am_ ?_;(with_reducible refine (pointer_Parse.calls (⟨#[97]⟩ : ByteArray) t234 t235 _ A3.out).mono ?_);rintro e w35 ⟨v236,rfl,ho0,hb⟩;refine ⟨_,rfl,?_⟩;have n_:=J_ (Kd.V_elder' (by (with_reducible repeat (first|apply Kd.V_alloc|apply Kd.V_drewN|apply Kd.V_drew));exact (Kd.V_mono (vf6_ (g:=gb233) (Kd.V_mono HO217.out (fun k_ hk=>(⟨hk,hk.2⟩ : _ ∧ k_ ≠ gb233))) (fun _ hk=>hk.2)) (fun _ h_=>h_.1))) (Kd.R_base ho0) hb) (J_ (Kd.V_elder' (by (with_reducible repeat (first|apply Kd.V_alloc|apply Kd.V_drewN|apply Kd.V_drew));exact (Kd.V_mono (vf6_ (g:=gb233) (Kd.V_mono HO220.out (fun k_ hk=>(⟨hk,hk.2⟩ : _ ∧ k_ ≠ gb233))) (fun _ hk=>hk.2)) (fun _ h_=>h_.1))) (Kd.R_base ho0) hb) (J_ (Kd.V_elder' (by (with_reducible repeat (first|apply Kd.V_alloc|apply Kd.V_drewN|apply Kd.V_drew));exact (Kd.V_mono (vf6_ (g:=gb233) (Kd.V_mono HO227.out (fun k_ hk=>(⟨hk,hk.2⟩ : _ ∧ k_ ≠ gb233))) (fun _ hk=>hk.2)) (fun _ h_=>h_.1))) (Kd.R_base ho0) hb) (J_ (Kd.V_elder' (by (with_reducible repeat (first|apply Kd.V_alloc|apply Kd.V_drewN|apply Kd.V_drew));exact (Kd.V_mono (vf6_ (g:=gb233) (Kd.V_mono HO230.out (fun k_ hk=>(⟨hk,hk.2⟩ : _ ∧ k_ ≠ gb233))) (fun _ hk=>hk.2)) (fun _ h_=>h_.1))) (Kd.R_base ho0) hb) (J_ (Kd.R_lower ho0 (below_size (hb_ HB))) (J_ (blk_below (g:=gb233) (o:=.cells #[.int .i64 t221,.bool t222,.string t223,.string t224,.slice Ao33 t225.length co33,.slice Ao34 t228.length co34] 25 (0,0)) (by (with_reducible repeat (first|refine blk_drewN ?_ _|refine blk_drew ?_|refine blk_alloc ?_ _));refine bp_ (cs:=#[.int .i64 t221,.bool t222,.string t223,.string t224,.slice Ao33 t225.length co33,.slice none 0 0]) ?_ 5 _;refine bp_ (cs:=#[.int .i64 t221,.bool t222,.string t223,.string t224,.slice none 0 0,.slice none 0 0]) ?_ 4 _;refine bp_ (cs:=#[.int .i64 t221,.bool t222,.string t223,.string (⟨#[]⟩ : ByteArray),.slice none 0 0,.slice none 0 0]) ?_ 3 _;refine bp_ (cs:=#[.int .i64 t221,.bool t222,.string (⟨#[]⟩ : ByteArray),.string (⟨#[]⟩ : ByteArray),.slice none 0 0,.slice none 0 0]) ?_ 2 _;refine bp_ (cs:=#[.int .i64 t221,.bool false,.string (⟨#[]⟩ : ByteArray),.string (⟨#[]⟩ : ByteArray),.slice none 0 0,.slice none 0 0]) ?_ 1 _;refine bp_ (cs:=#[.int .i64 0,.bool false,.string (⟨#[]⟩ : ByteArray),.string (⟨#[]⟩ : ByteArray),.slice none 0 0,.slice none 0 0]) ?_ 0 _;(with_reducible repeat (first|refine blk_drewN ?_ _|refine blk_drew ?_|refine blk_alloc ?_ _));exact BK233.out) hb) (Aside0.mk (below_step (hb_ HB) hb)))))));clear HO217 HO220 HO227 HO230 BK233 HB;obtain ⟨HO217,HO220,HO227,HO230,HO237,BK233,HB⟩:=n_;(try clear hb);(try clear hb2);(try clear hk);(try clear hi);(try clear ho0);obtain ⟨hcz36_0,hcz36_1,hcz36_2,hcz36_3,hcz36_4,hcz36_5,hfz36_0,hfz36_1,hfz36_2,hfz36_3,hfz36_4,hfz36_5⟩:=cf6_ BK233))
   go_ret
   exact ⟨er_,(hb_ HB)⟩
 ·rw [if_neg c4] at H
  have c4b0 : (t223.toList == ([55] : List UInt8)) = false:=beq_eq_false_iff_ne.mpr c4
  have c4b1 : (t223.toList != ([55] : List UInt8)) = true:=bne_iff_ne.mpr c4
  obtain rfl:=Option.some.inj H
  go_enter Tryd.func13,Tryd.ntmps13
  go_wp2_with (first|((with_reducible refine gate_callee (f:=9) rfl ?_);refine goesL_ (some 7) rfl rfl Tryd.func9 (by kernel_rfl) rfl #[] rfl am_ ?_;(with_reducible refine (quarrylaw20_small.calls  t211 t212 t213 t214 t215 t218 _ A1.out).mono ?_);rintro e w37 ⟨v216,v219,rfl,ho0,ho1,hb⟩;refine ⟨_,rfl,?_⟩;have n_:=J_ (Kd.V_lower (Kd.V_mono (ok':=fun k_=>True) ho0 (fun k_ hk_=>trivial)) (below_size (hb_ HB))) (J_ (Kd.V_lower (Kd.V_mono (ok':=fun k_=>True) ho1 (fun k_ hk_=>trivial)) (below_size (hb_ HB))) (Aside0.mk (below_step (hb_ HB) hb)));clear HB;obtain ⟨HO217,HO220,HB⟩:=n_;(try clear hb);(try clear hb2);(try clear hk);(try clear hi);(try clear ho0);(try clear ho1);obtain ⟨Ao38,co38,eo38⟩:=Kd.V_slice HO217.out;subst eo38;obtain ⟨Ao39,co39,eo39⟩:=Kd.V_slice HO220.out;subst eo39)|((with_reducible refine gate_callee (f:=8) rfl ?_);refine goesL_ (some 8) rfl rfl Tryd.func8 (by kernel_rfl) rfl #[.agg #[.int .i64 t211,.bool t212,.string t213,.string t214,.slice Ao38 t215.length co38,.slice Ao39 t218.length co39],.string (⟨#[47,97,47,49,47]⟩ : ByteArray)] rfl am_ ?_;(with_reducible refine (pointer_Find.calls k t211 t212 t213 t214 (fun k_=>True) _ _ t215 (fun k_=>True) _ _ t218 (⟨#[47,97,47,49,47]⟩ : ByteArray) t221 t222 t223 t224 t225 t228 t231 t232 _ ?side1 ?side2 A2.out).mono ?_);(case side1=>exact HO217.out);(case side2=>exact HO220.out);rintro e w40 ⟨v226,v229,rfl,ho0,ho1,hb⟩;refine ⟨_,rfl,?_⟩;have n_:=J_ (Kd.V_below (vk_ HO217) hb) (J_ (Kd.V_below (vk_ HO220) hb) (J_ (Kd.V_lower (Kd.V_mono (ok':=fun k_=>True) ho0 (fun k_ hk_=>trivial)) (below_size (hb_ HB))) (J_ (Kd.V_lower (Kd.V_mono (ok':=fun k_=>True) ho1 (fun k_ hk_=>trivial)) (below_size (hb_ HB))) (Aside0.mk (below_step (hb_ HB) hb)))));clear HO217 HO220 HB;obtain ⟨HO217,HO220,HO227,HO230,HB⟩:=n_;(try clear hb);(try clear hb2);(try clear hk);(try clear hi);(try clear ho0);(try clear ho1))|((with_reducible refine gate_dst (N:=1) rfl ?_);refine box_event ?hg (N:=1) ?hd (cs:=#[.int .i64 0,.bool false,.string (⟨#[]⟩ : ByteArray),.string (⟨#[]⟩ : ByteArray),.slice none 0 0,.slice none 0 0]) (t:=25) ?hr ?_;(case hd=>rfl);(case hg=>rfl);(case hr=>first|(go_simp;done)|(go_simp;rfl));intro gb233 hg w41 hbox hb;have n_:=J_ (Kd.V_below (Kd.V_elderB (vk_ HO217) gb233 (Nat.le_of_eq hg.symm)) hb) (J_ (Kd.V_below (Kd.V_elderB (vk_ HO220) gb233 (Nat.le_of_eq hg.symm)) hb) (J_ (Kd.V_below (Kd.V_elderB (vk_ HO227) gb233 (Nat.le_of_eq hg.symm)) hb) (J_ (Kd.V_below (Kd.V_elderB (vk_ HO230) gb233 (Nat.le_of_eq hg.symm)) hb) (J_ (below_step (hb_ HB) hb) (J_ (hbox) (J_ (bs_ hg HB) (Aside0.mk (bs_ hg HB))))))));clear HO217 HO220 HO227 HO230 HB;obtain ⟨HO217,HO220,HO227,HO230,HB,BK233,GW233,GE233⟩:=n_;clear hb hbox hg;obtain ⟨hcz42_0,hcz42_1,hcz42_2,hcz42_3,hcz42_4,hcz42_5,hfz42_0,hfz42_1,hfz42_2,hfz42_3,hfz42_4,hfz42_5⟩:=cf6_ BK233;obtain ⟨Ao43,co43,eo43⟩:=Kd.V_slice HO227.out;subst eo43;obtain ⟨Ao44,co44,eo44⟩:=Kd.V_slice HO230.out;subst eo44)|((with_reducible refine gate_callee (f:=15) rfl ?_);refine goesL_ (some 13) rfl rfl Tryd.func15 (by kernel_rfl) rfl #[.string (⟨#[97]⟩ : ByteArray)] rfl am_ ?_;(with_reducible refine (pointer_Parse.calls (⟨#[97]⟩ : ByteArray) t234 t235 _ A3.out).mono ?_);rintro e w45 ⟨v236,rfl,ho0,hb⟩;refine ⟨_,rfl,?_⟩;have n_:=J_ (Kd.V_elder' (by (with_reducible repeat (first|apply Kd.V_alloc|apply Kd.V_drewN|apply Kd.V_drew));exact (Kd.V_mono (vf6_ (g:=gb233) (Kd.V_mono HO217.out (fun k_ hk=>(⟨hk,hk.2⟩ : _ ∧ k_ ≠ gb233))) (fun _ hk=>hk.2)) (fun _ h_=>h_.1))) (Kd.R_base ho0) hb) (J_ (Kd.V_elder' (by (with_reducible repeat (first|apply Kd.V_alloc|apply Kd.V_drewN|apply Kd.V_drew));exact (Kd.V_mono (vf6_ (g:=gb233) (Kd.V_mono HO220.out (fun k_ hk=>(⟨hk,hk.2⟩ : _ ∧ k_ ≠ gb233))) (fun _ hk=>hk.2)) (fun _ h_=>h_.1))) (Kd.R_base ho0) hb) (J_ (Kd.V_elder' (by (with_reducible repeat (first|apply Kd.V_alloc|apply Kd.V_drewN|apply Kd.V_drew));exact (Kd.V_mono (vf6_ (g:=gb233) (Kd.V_mono HO227.out (fun k_ hk=>(⟨hk,hk.2⟩ : _ ∧ k_ ≠ gb233))) (fun _ hk=>hk.2)) (fun _ h_=>h_.1))) (Kd.R_base ho0) hb) (J_ (Kd.V_elder' (by (with_reducible repeat (first|apply Kd.V_alloc|apply Kd.V_drewN|apply Kd.V_drew));exact (Kd.V_mono (vf6_ (g:=gb233) (Kd.V_mono HO230.out (fun k_ hk=>(⟨hk,hk.2⟩ : _ ∧ k_ ≠ gb233))) (fun _ hk=>hk.2)) (fun _ h_=>h_.1))) (Kd.R_base ho0) hb) (J_ (Kd.R_lower ho0 (below_size (hb_ HB))) (J_ (blk_below (g:=gb233) (o:=.cells #[.int .i64 t221,.bool t222,.string t223,.string t224,.slice Ao43 t225.length co43,.slice Ao44 t228.length co44] 25 (0,0)) (by (with_reducible repeat (first|refine blk_drewN ?_ _|refine blk_drew ?_|refine blk_alloc ?_ _));refine bp_ (cs:=#[.int .i64 t221,.bool t222,.string t223,.string t224,.slice Ao43 t225.length co43,.slice none 0 0]) ?_ 5 _;refine bp_ (cs:=#[.int .i64 t221,.bool t222,.string t223,.string t224,.slice none 0 0,.slice none 0 0]) ?_ 4 _;refine bp_ (cs:=#[.int .i64 t221,.bool t222,.string t223,.string (⟨#[]⟩ : ByteArray),.slice none 0 0,.slice none 0 0]) ?_ 3 _;refine bp_ (cs:=#[.int .i64 t221,.bool t222,.string (⟨#[]⟩ : ByteArray),.string (⟨#[]⟩ : ByteArray),.slice none 0 0,.slice none 0 0]) ?_ 2 _;refine bp_ (cs:=#[.int .i64 t221,.bool false,.string (⟨#[]⟩ : ByteArray),.string (⟨#[]⟩ : ByteArray),.slice none 0 0,.slice none 0 0]) ?_ 1 _;refine bp_ (cs:=#[.int .i64 0,.bool false,.string (⟨#[]⟩ : ByteArray),.string (⟨#[]⟩ : ByteArray),.slice none 0 0,.slice none 0 0]) ?_ 0 _;(with_reducible repeat (first|refine blk_drewN ?_ _|refine blk_drew ?_|refine blk_alloc ?_ _));exact BK233.out) hb) (Aside0.mk (below_step (hb_ HB) hb)))))));clear HO217 HO220 HO227 HO230 BK233 HB;obtain ⟨HO217,HO220,HO227,HO230,HO237,BK233,HB⟩:=n_;(try clear hb);(try clear hb2);(try clear hk);(try clear hi);(try clear ho0);obtain ⟨hcz46_0,hcz46_1,hcz46_2,hcz46_3,hcz46_4,hcz46_5,hfz46_0,hfz46_1,hfz46_2,hfz46_3,hfz46_4,hfz46_5⟩:=cf6_ BK233))
  go_ret
  exact ⟨er_,(hb_ HB)⟩
mutual
def pointer_Within.j0 : Nat → List ByteArray → List ByteArray → Bool → Option (Bool × Int)
 | 0,_,_,_=>none
 | k + 1,x6,x8,x27=>if x27 = true then (some (false,200)) else (pointer_Within.l0 k x6 x8 (x8.length : Int) 0)
def pointer_Within.l0 : Nat → List ByteArray → List ByteArray → Int → Int → Option (Bool × Int)
 | 0,_,_,_,_=>none
 | k + 1,x6,x28,x29,x30=>if x30 < x29 then (if 0 ≤ x30 then (if x30 < (x28.length : Int) then (if x30 ≥ (x6.length : Int) then (some (false,0)) else (if x30 < (x6.length : Int) then (if (rdOf ByteArray.empty x6 x30).toList = (rdOf ByteArray.empty x28 x30).toList then (pointer_Within.l0 k x6 x28 x29 (wrap64 (x30 + 1))) else (some (false,0))) else (none))) else (none)) else (none)) else (some (true,0))
end
def pointer_Within.f (k : Nat) (a0 : ByteArray) (a1 : ByteArray) : Option (Bool × Int):=(pointer_Parse.f a0).bind fun bt238=>((pointer_Parse.f a1).bind fun bt242=>(if bt238.2 = 0 then (pointer_Within.j0 k bt238.1 bt242.1 (bt242.2 != 0)) else (pointer_Within.j0 k bt238.1 bt242.1 true)))
set_option maxHeartbeats 8000000 in
set_option maxRecDepth 100000 in
theorem pointer_Within.calls (k : Nat) (a0 : ByteArray) (a1 : ByteArray) (r1 : Bool) (r2 : Int) (w : World) (h : pointer_Within.f k a0 a1 = some (r1,r2)) :
  Calls Tryd.prog 14 #[.string a0,.string a1] w fun e w'=>e = .returned (.tuple #[.bool r1,.int .i64 r2]) ∧ Below w.heap.size w w':=by
 have HB:=Aside0.mk (Below.refl w.heap.size w)
 have H : ((pointer_Parse.f a0).bind fun bt238=>((pointer_Parse.f a1).bind fun bt242=>(if bt238.2 = 0 then (pointer_Within.j0 k bt238.1 bt242.1 (bt242.2 != 0)) else (pointer_Within.j0 k bt238.1 bt242.1 true)))) = some (r1,r2):=h
 clear h
 replace H:=Option.bind_eq_some_iff.mp H
 obtain ⟨⟨t238,t239⟩,A30,H⟩:=H
 replace H : ((pointer_Parse.f a1).bind fun bt242=>(if t239 = 0 then (pointer_Within.j0 k t238 bt242.1 (bt242.2 != 0)) else (pointer_Within.j0 k t238 bt242.1 true))) = some (r1,r2):=H
 have A3:=Aside0.mk A30
 clear A30
 replace H:=Option.bind_eq_some_iff.mp H
 obtain ⟨⟨t242,t243⟩,A40,H⟩:=H
 replace H : (if t239 = 0 then (pointer_Within.j0 k t238 t242 (t243 != 0)) else (pointer_Within.j0 k t238 t242 true)) = some (r1,r2):=H
 have A4:=Aside0.mk A40
 clear A40
 have HC5:=Aside0.mk H
 clear H
 go_enter Tryd.func14,Tryd.ntmps14
 go_upto_region 3 with (first|((with_reducible refine gate_callee (f:=15) rfl ?_);refine goesL_ (some 14) rfl rfl Tryd.func15 (by kernel_rfl) rfl #[.string a0] rfl am_ ?_;(with_reducible refine (pointer_Parse.calls a0 t238 t239 _ A3.out).mono ?_);rintro e w6 ⟨v240,rfl,ho0,hb⟩;refine ⟨_,rfl,?_⟩;have n_:=J_ (Kd.R_lower ho0 (below_size (hb_ HB))) (Aside0.mk (below_step (hb_ HB) hb));clear HB;obtain ⟨HO241,HB⟩:=n_;(try clear hb);(try clear hb2);(try clear hk);(try clear hi);(try clear ho0))|((with_reducible refine gate_callee (f:=15) rfl ?_);refine goesL_ (some 19) rfl rfl Tryd.func15 (by kernel_rfl) rfl #[.string a1] rfl am_ ?_;(with_reducible refine (pointer_Parse.calls a1 t242 t243 _ A4.out).mono ?_);rintro e w7 ⟨v244,rfl,ho0,hb⟩;refine ⟨_,rfl,?_⟩;have n_:=J_ (Kd.R_elder' (rk_ HO241) (Kd.R_base ho0) hb) (J_ (Kd.R_lower (Kd.R_new' ho0 (Kd.R_lt (rk_ HO241))) (below_size (hb_ HB))) (Aside0.mk (below_step (hb_ HB) hb)));clear HO241 HB;obtain ⟨HO241,HO245,HB⟩:=n_;(try clear hb);(try clear hb2);(try clear hk);(try clear hi);(try clear ho0)))
 (try simp only [Act.put,List.setIfInBounds_toArray,List.set_cons_zero,List.set_cons_succ])
 go_cut [27] (fun v27 wc=>∃ (kq : Nat) (x27_4 : Bool),v27 = .bool x27_4 ∧ Aside0 (pointer_Within.j0 kq t238 t242 x27_4 = some (r1,r2)) ∧ Aside0 (kq ≤ k) ∧ Aside0 (Kd.R Kd.string 9 wc w.heap.size (fun k_=>some k_ ≠ (v244 : Value).ownBlock) v240 t238) ∧ Aside0 (Kd.R Kd.string 9 wc w.heap.size (fun k_=>some k_ ≠ (v240 : Value).ownBlock) v244 t242) ∧ Aside0 (Below w.heap.size w wc))
 case first =>
  have H:=HC5.out
  clear HC5
  by_cases c8 : t239 = 0
  ·rw [if_pos c8] at H
   have c8b0 : (t239 == 0) = true:=beq_iff_eq.mpr c8
   have c8b1 : (t239 != 0) = false:=bne_eq_false_iff_eq.mpr c8
   clear c8
   (first|rw [c8b0]|(simp only [i64_w,i32_w];rw [c8b0])|skip)
   have H':=Aside0.mk H
   clear H
   go_wp2
   go_meet
   case rel=>exact ⟨_,((t243 != 0)),rr_,(by first|exact H'|(subst_vars;exact H')),⟨by first|omega|exact Nat.le_refl _⟩,⟨by (with_reducible repeat (first|apply Kd.R_alloc|apply Kd.R_drewN|apply Kd.R_drew));exact Kd.R_mono HO241.out (fun _ hk=>hk.2)⟩,⟨by (with_reducible repeat (first|apply Kd.R_alloc|apply Kd.R_drewN|apply Kd.R_drew));exact Kd.R_mono HO245.out (fun _ hk=>hk.2)⟩,⟨(hb_ HB)⟩⟩
  ·rw [if_neg c8] at H
   have c8b0 : (t239 == 0) = false:=beq_eq_false_iff_ne.mpr c8
   have c8b1 : (t239 != 0) = true:=bne_iff_ne.mpr c8
   (first|rw [c8b0]|(simp only [i64_w,i32_w];rw [c8b0])|skip)
   have H':=Aside0.mk H
   clear H
   go_wp2
   go_meet
   case rel=>exact ⟨_,(true),rr_,(by first|exact H'|(subst_vars;exact H')),⟨by first|omega|exact Nat.le_refl _⟩,⟨by (with_reducible repeat (first|apply Kd.R_alloc|apply Kd.R_drewN|apply Kd.R_drew));exact Kd.R_mono HO241.out (fun _ hk=>hk.2)⟩,⟨by (with_reducible repeat (first|apply Kd.R_alloc|apply Kd.R_drewN|apply Kd.R_drew));exact Kd.R_mono HO245.out (fun _ hk=>hk.2)⟩,⟨(hb_ HB)⟩⟩
 case rest =>
  clear HC5
  obtain ⟨kq,x27_4,rfl,HA,HJ4,HO_6,HO_8,HB⟩:=hcut
  cases kq with
  | zero=>exact absurd HA.out (by simp [pointer_Within.j0])
  | succ kj4 =>
   have H:=HA.out
   clear HA
   simp only [pointer_Within.j0] at H
   by_cases c9 : x27_4 = true
   ·subst c9
    have H1 : (some (false,200)) = some (r1,r2):=by rw [if_pos rfl] at H;exact H
    clear H
    have H:=H1
    clear H1
    simp only [Option.some.injEq,Prod.mk.injEq] at H
    obtain ⟨rfl,rfl⟩:=H
    go_wp2
    go_ret2
    exact ⟨er_,(hb_ HB)⟩
   ·replace c9:=Bool.eq_false_iff.mpr c9
    subst c9
    have H1 : (pointer_Within.l0 kj4 t238 t242 (t242.length : Int) 0) = some (r1,r2):=by rw [if_neg (show ¬ (false = true) by decide)] at H;exact H
    clear H
    have H:=H1
    clear H1
    have H':=Aside0.mk H
    clear H
    obtain ⟨Ao10,co10,eo10⟩:=Kd.R_slice HO_8.out
    subst eo10
    go_wp2
    go_loopg [30] kj4 (fun kq v30 w'=>∃ (x30_2 : Int),v30 = .int .i64 x30_2 ∧ Aside0 (pointer_Within.l0 kq t238 t242 (t242.length : Int) x30_2 = some (r1,r2)) ∧ Aside0 (kq ≤ kj4) ∧ Aside0 (Kd.R Kd.string 9 w' w.heap.size (fun k_=>some k_ ≠ ((.slice Ao10 t242.length co10) : Value).ownBlock) v240 t238) ∧ Aside0 (Kd.R Kd.string 9 w' w.heap.size (fun k_=>some k_ ≠ (v240 : Value).ownBlock) (.slice Ao10 t242.length co10) t242) ∧ Aside0 (Below w.heap.size w w'))
    case atStart=>exact ⟨(0),rr_,H',⟨Nat.le_refl _⟩,⟨(rk_ HO_6)⟩,⟨(rk_ HO_8)⟩,⟨(hb_ HB)⟩⟩
    case round =>
     clear H'
     try clear HO_6
     try clear HB
     obtain ⟨x30_2,rfl,HA,HK2,HO_6,HO_28,HB⟩:=hrel
     cases gk with
     | zero=>exact absurd HA.out (by simp [pointer_Within.l0])
     | succ k2 =>
      have H:=HA.out
      clear HA
      simp only [pointer_Within.l0] at H
      by_cases c11 : x30_2 < (t242.length : Int)
      ·rw [if_pos c11] at H
       have c11b0 : decide (x30_2 < (t242.length : Int)) = true:=decide_eq_true c11
       clear c11
       by_cases c12 : 0 ≤ x30_2
       ·rw [if_pos c12] at H
        have c12b0 : decide (0 ≤ x30_2) = true:=decide_eq_true c12
        clear c12
        by_cases c13 : x30_2 < (t242.length : Int)
        ·rw [if_pos c13] at H
         have c13b0 : decide (x30_2 < (t242.length : Int)) = true:=decide_eq_true c13
         clear c13
         by_cases c14 : x30_2 ≥ (t238.length : Int)
         ·rw [if_pos c14] at H
          have c14b0 : decide ((t238.length : Int) ≤ x30_2) = true:=decide_eq_true c14
          clear c14
          simp only [Option.some.injEq,Prod.mk.injEq] at H
          obtain ⟨rfl,rfl⟩:=H
          have p246 : 0 ≤ (x30_2 : Int):=of_decide_eq_true aa_
          have q246 : x30_2 < (t242.length : Int):=of_decide_eq_true aa_
          obtain ⟨ad246,e246,hx246_0⟩:=Kd.at_string (Kd.R_reads' HO_28.out).2.2 x30_2 p246 q246
          cases e246
          replace p246:=eq_true p246
          replace q246:=eq_true q246
          obtain ⟨Ao15,co15,eo15⟩:=Kd.R_slice HO_6.out
          subst eo15
          go_wp2
          go_ret2
          exact ⟨er_,(hb_ HB)⟩
         ·rw [if_neg c14] at H
          have c14b0 : decide ((t238.length : Int) ≤ x30_2) = false:=decide_eq_false c14
          clear c14
          by_cases c16 : x30_2 < (t238.length : Int)
          ·rw [if_pos c16] at H
           have c16b0 : decide (x30_2 < (t238.length : Int)) = true:=decide_eq_true c16
           clear c16
           by_cases c17 : (rdOf ByteArray.empty t238 x30_2).toList = (rdOf ByteArray.empty t242 x30_2).toList
           ·rw [if_pos c17] at H
            have c17b0 : ((rdOf ByteArray.empty t238 x30_2).toList == (rdOf ByteArray.empty t242 x30_2).toList) = true:=beq_iff_eq.mpr c17
            have c17b1 : ((rdOf ByteArray.empty t238 x30_2).toList != (rdOf ByteArray.empty t242 x30_2).toList) = false:=bne_eq_false_iff_eq.mpr c17
            clear c17
            have H':=Aside0.mk H
            clear H
            have p246 : 0 ≤ (x30_2 : Int):=of_decide_eq_true aa_
            have q246 : x30_2 < (t242.length : Int):=of_decide_eq_true aa_
            obtain ⟨ad246,e246,hx246_0⟩:=Kd.at_string (Kd.R_reads' HO_28.out).2.2 x30_2 p246 q246
            cases e246
            replace p246:=eq_true p246
            replace q246:=eq_true q246
            obtain ⟨Ao18,co18,eo18⟩:=Kd.R_slice HO_6.out
            subst eo18
            have p247 : 0 ≤ (x30_2 : Int):=of_decide_eq_true aa_
            have q247 : x30_2 < (t238.length : Int):=of_decide_eq_true aa_
            obtain ⟨ad247,e247,hx247_0⟩:=Kd.at_string (Kd.R_reads' HO_6.out).2.2 x30_2 p247 q247
            cases e247
            replace p247:=eq_true p247
            replace q247:=eq_true q247
            go_wp2
            go_roundg k2
            case measure=>have:=HJ4.out;have:=HK2.out;omega
            case rel=>exact ⟨(wrap64 (x30_2 + 1)),rr_,(by first|exact H'|(subst_vars;exact H')),⟨by have:=HJ4.out;have:=HK2.out;omega⟩,⟨(rk_ HO_6)⟩,⟨(rk_ HO_28)⟩,⟨(hb_ HB)⟩⟩
           ·rw [if_neg c17] at H
            have c17b0 : ((rdOf ByteArray.empty t238 x30_2).toList == (rdOf ByteArray.empty t242 x30_2).toList) = false:=beq_eq_false_iff_ne.mpr c17
            have c17b1 : ((rdOf ByteArray.empty t238 x30_2).toList != (rdOf ByteArray.empty t242 x30_2).toList) = true:=bne_iff_ne.mpr c17
            simp only [Option.some.injEq,Prod.mk.injEq] at H
            obtain ⟨rfl,rfl⟩:=H
            have p246 : 0 ≤ (x30_2 : Int):=of_decide_eq_true aa_
            have q246 : x30_2 < (t242.length : Int):=of_decide_eq_true aa_
            obtain ⟨ad246,e246,hx246_0⟩:=Kd.at_string (Kd.R_reads' HO_28.out).2.2 x30_2 p246 q246
            cases e246
            replace p246:=eq_true p246
            replace q246:=eq_true q246
            obtain ⟨Ao19,co19,eo19⟩:=Kd.R_slice HO_6.out
            subst eo19
            have p247 : 0 ≤ (x30_2 : Int):=of_decide_eq_true aa_
            have q247 : x30_2 < (t238.length : Int):=of_decide_eq_true aa_
            obtain ⟨ad247,e247,hx247_0⟩:=Kd.at_string (Kd.R_reads' HO_6.out).2.2 x30_2 p247 q247
            cases e247
            replace p247:=eq_true p247
            replace q247:=eq_true q247
            go_wp2
            go_ret2
            exact ⟨er_,(hb_ HB)⟩
          ·rw [if_neg c16] at H
           exact absurd H (by simp)
        ·rw [if_neg c13] at H
         exact absurd H (by simp)
       ·rw [if_neg c12] at H
        exact absurd H (by simp)
      ·rw [if_neg c11] at H
       have c11b0 : decide (x30_2 < (t242.length : Int)) = false:=decide_eq_false c11
       clear c11
       simp only [Option.some.injEq,Prod.mk.injEq] at H
       obtain ⟨rfl,rfl⟩:=H
       go_wp2
       go_ret2
       exact ⟨er_,(hb_ HB)⟩
mutual
def quarrylaw20_PointerChains.j0 : Nat → ByteArray → ByteArray → ByteArray → Bool → Option (Bool)
 | 0,_,_,_,_=>none
 | k + 1,x0,x1,x2,x44=>if x44 = true then (some false) else ((pointer_Within.f k x0 x1).bind fun bt255=>((pointer_Within.f k x1 x2).bind fun bt257=>((pointer_Within.f k x0 x2).bind fun bt259=>(if bt255.2 = 0 then (if bt257.2 = 0 then (if bt259.2 = 0 then (if bt255.1 = true then (if bt257.1 = true then (quarrylaw20_PointerChains.j1 k x0 x1 (!bt259.1)) else (quarrylaw20_PointerChains.j1 k x0 x1 false)) else (quarrylaw20_PointerChains.j1 k x0 x1 false)) else (quarrylaw20_PointerChains.j1 k x0 x1 true)) else (quarrylaw20_PointerChains.j1 k x0 x1 false)) else (quarrylaw20_PointerChains.j1 k x0 x1 false)))))
def quarrylaw20_PointerChains.j1 : Nat → ByteArray → ByteArray → Bool → Option (Bool)
 | 0,_,_,_=>none
 | k + 1,x0,x1,x82=>if x82 = true then (some false) else ((pointer_Parse.f x0).bind fun bt261=>((pointer_Parse.f x1).bind fun bt265=>(if x1.size + x0.size ≤ 9223372036854775807 then ((pointer_Within.f k (x1 ++ x0) x1).bind fun bt269=>(if bt261.2 = 0 then (if bt265.2 = 0 then (if bt269.1 = true then (some (bt269.2 == 0)) else (some false)) else (some true)) else (some true))) else (none))))
end
def quarrylaw20_PointerChains.f (k : Nat) (a0 : ByteArray) (a1 : ByteArray) (a2 : ByteArray) : Option (Bool):=(quarrylaw20_awake.f k).bind fun t248=>(if t248 = true then ((pointer_Within.f k a1 a1).bind fun bt249=>((pointer_Parse.f a1).bind fun bt251=>(if ((bt249.2 == 0) != (bt251.2 == 0)) = true then (quarrylaw20_PointerChains.j0 k a0 a1 a2 true) else (quarrylaw20_PointerChains.j0 k a0 a1 a2 (bt249.1 != (bt249.2 == 0)))))) else (some false))
set_option maxHeartbeats 8000000 in
set_option maxRecDepth 100000 in
theorem quarrylaw20_PointerChains.calls (k : Nat) (a0 : ByteArray) (a1 : ByteArray) (a2 : ByteArray) (r : Bool) (w : World) (h : quarrylaw20_PointerChains.f k a0 a1 a2 = some r) :
  Calls Tryd.prog 4 #[.string a0,.string a1,.string a2] w fun e w'=>e = .returned (.bool r) ∧ Below w.heap.size w w':=by
 have HB:=Aside0.mk (Below.refl w.heap.size w)
 have H : ((quarrylaw20_awake.f k).bind fun t248=>(if t248 = true then ((pointer_Within.f k a1 a1).bind fun bt249=>((pointer_Parse.f a1).bind fun bt251=>(if ((bt249.2 == 0) != (bt251.2 == 0)) = true then (quarrylaw20_PointerChains.j0 k a0 a1 a2 true) else (quarrylaw20_PointerChains.j0 k a0 a1 a2 (bt249.1 != (bt249.2 == 0)))))) else (some false))) = some r:=h
 clear h
 replace H:=Option.bind_eq_some_iff.mp H
 obtain ⟨t248,A40,H⟩:=H
 replace H : (if t248 = true then ((pointer_Within.f k a1 a1).bind fun bt249=>((pointer_Parse.f a1).bind fun bt251=>(if ((bt249.2 == 0) != (bt251.2 == 0)) = true then (quarrylaw20_PointerChains.j0 k a0 a1 a2 true) else (quarrylaw20_PointerChains.j0 k a0 a1 a2 (bt249.1 != (bt249.2 == 0)))))) else (some false)) = some r:=H
 have A4:=Aside0.mk A40
 clear A40
 by_cases c5 : t248 = true
 ·subst c5
  have H1 : ((pointer_Within.f k a1 a1).bind fun bt249=>((pointer_Parse.f a1).bind fun bt251=>(if ((bt249.2 == 0) != (bt251.2 == 0)) = true then (quarrylaw20_PointerChains.j0 k a0 a1 a2 true) else (quarrylaw20_PointerChains.j0 k a0 a1 a2 (bt249.1 != (bt249.2 == 0)))))) = some r:=by rw [if_pos rfl] at H;exact H
  clear H
  have H:=H1
  clear H1
  replace H:=Option.bind_eq_some_iff.mp H
  obtain ⟨⟨t249,t250⟩,A60,H⟩:=H
  replace H : ((pointer_Parse.f a1).bind fun bt251=>(if ((t250 == 0) != (bt251.2 == 0)) = true then (quarrylaw20_PointerChains.j0 k a0 a1 a2 true) else (quarrylaw20_PointerChains.j0 k a0 a1 a2 (t249 != (t250 == 0))))) = some r:=H
  have A6:=Aside0.mk A60
  clear A60
  replace H:=Option.bind_eq_some_iff.mp H
  obtain ⟨⟨t251,t252⟩,A70,H⟩:=H
  replace H : (if ((t250 == 0) != (t252 == 0)) = true then (quarrylaw20_PointerChains.j0 k a0 a1 a2 true) else (quarrylaw20_PointerChains.j0 k a0 a1 a2 (t249 != (t250 == 0)))) = some r:=H
  have A7:=Aside0.mk A70
  clear A70
  have HC8:=Aside0.mk H
  clear H
  go_enter Tryd.func4,Tryd.ntmps4
  go_upto_region 5 with (first|((with_reducible refine gate_callee (f:=13) rfl ?_);refine goesL_ (some 21) rfl rfl Tryd.func13 (by kernel_rfl) rfl #[] rfl am_ ?_;(with_reducible refine (quarrylaw20_awake.calls k  true _ A4.out).mono ?_);rintro e w9 ⟨rfl,hb⟩;refine ⟨_,rfl,?_⟩;have n0_:=Aside0.mk (below_step (hb_ HB) hb);clear HB;have HB:=n0_;clear n0_;(try clear hb);(try clear hb2);(try clear hk);(try clear hi))|((with_reducible refine gate_callee (f:=14) rfl ?_);refine goesL_ (some 26) rfl rfl Tryd.func14 (by kernel_rfl) rfl #[.string a1,.string a1] rfl am_ ?_;(with_reducible refine (pointer_Within.calls k a1 a1 t249 t250 _ A6.out).mono ?_);rintro e w10 ⟨rfl,hb⟩;refine ⟨_,rfl,?_⟩;have n0_:=Aside0.mk (below_step (hb_ HB) hb);clear HB;have HB:=n0_;clear n0_;(try clear hb);(try clear hb2);(try clear hk);(try clear hi))|((with_reducible refine gate_callee (f:=15) rfl ?_);refine goesL_ (some 31) rfl rfl Tryd.func15 (by kernel_rfl) rfl #[.string a1] rfl am_ ?_;(with_reducible refine (pointer_Parse.calls a1 t251 t252 _ A7.out).mono ?_);rintro e w11 ⟨v253,rfl,ho0,hb⟩;refine ⟨_,rfl,?_⟩;have n_:=J_ (Kd.R_lower ho0 (below_size (hb_ HB))) (Aside0.mk (below_step (hb_ HB) hb));clear HB;obtain ⟨HO254,HB⟩:=n_;(try clear hb);(try clear hb2);(try clear hk);(try clear hi);(try clear ho0)))
  (try simp only [Act.put,List.setIfInBounds_toArray,List.set_cons_zero,List.set_cons_succ])
  go_cut [44] (fun v44 wc=>∃ (kq : Nat) (x44_7 : Bool),v44 = .bool x44_7 ∧ Aside0 (quarrylaw20_PointerChains.j0 kq a0 a1 a2 x44_7 = some r) ∧ Aside0 (kq ≤ k) ∧ Aside0 (Below w.heap.size w wc))
  case first =>
   have H:=HC8.out
   clear HC8
   by_cases c12 : ((t250 == 0) != (t252 == 0)) = true
   ·rw [if_pos c12] at H
    have c12b0 : ((t250 == 0) != (t252 == 0)) = true:=c12
    (try (have c12b1 : decide ((t250 == 0) = (t252 == 0)) = false:=by simpa using c12))
    (try (have c12b2 : ((t250 == 0) == (t252 == 0)) = false:=by simpa using c12))
    (try (have c12b3 : ¬ ((t250 == 0) = (t252 == 0)):=by simpa using c12))
    clear c12
    (first|rw [c12b0]|(simp only [i64_w,i32_w];rw [c12b0])|skip)
    have H':=Aside0.mk H
    clear H
    go_wp2
    go_meet
    case rel=>exact ⟨_,(true),rr_,(by first|exact H'|(subst_vars;exact H')),⟨by first|omega|exact Nat.le_refl _⟩,⟨(hb_ HB)⟩⟩
   ·rw [if_neg c12] at H
    have c12b0 : ((t250 == 0) != (t252 == 0)) = false:=by simpa using c12
    (try (have c12b1 : decide ((t250 == 0) = (t252 == 0)) = true:=by simpa using c12))
    (try (have c12b2 : ((t250 == 0) == (t252 == 0)) = true:=by simpa using c12))
    clear c12
    (first|rw [c12b0]|(simp only [i64_w,i32_w];rw [c12b0])|skip)
    have H':=Aside0.mk H
    clear H
    go_wp2
    go_meet
    case rel=>exact ⟨_,((t249 != (t250 == 0))),rr_,(by first|exact H'|(subst_vars;exact H')),⟨by first|omega|exact Nat.le_refl _⟩,⟨(hb_ HB)⟩⟩
  case rest =>
   clear HC8
   obtain ⟨kq,x44_7,rfl,HA,HJ7,HB⟩:=hcut
   cases kq with
   | zero=>exact absurd HA.out (by simp [quarrylaw20_PointerChains.j0])
   | succ kj7 =>
    have H:=HA.out
    clear HA
    simp only [quarrylaw20_PointerChains.j0] at H
    by_cases c13 : x44_7 = true
    ·subst c13
     have H1 : (some false) = some r:=by rw [if_pos rfl] at H;exact H
     clear H
     have H:=H1
     clear H1
     obtain rfl:=Option.some.inj H
     go_wp2
     go_ret
     exact ⟨er_,(hb_ HB)⟩
    ·replace c13:=Bool.eq_false_iff.mpr c13
     subst c13
     have H1 : ((pointer_Within.f kj7 a0 a1).bind fun bt255=>((pointer_Within.f kj7 a1 a2).bind fun bt257=>((pointer_Within.f kj7 a0 a2).bind fun bt259=>(if bt255.2 = 0 then (if bt257.2 = 0 then (if bt259.2 = 0 then (if bt255.1 = true then (if bt257.1 = true then (quarrylaw20_PointerChains.j1 kj7 a0 a1 (!bt259.1)) else (quarrylaw20_PointerChains.j1 kj7 a0 a1 false)) else (quarrylaw20_PointerChains.j1 kj7 a0 a1 false)) else (quarrylaw20_PointerChains.j1 kj7 a0 a1 true)) else (quarrylaw20_PointerChains.j1 kj7 a0 a1 false)) else (quarrylaw20_PointerChains.j1 kj7 a0 a1 false))))) = some r:=by rw [if_neg (show ¬ (false = true) by decide)] at H;exact H
     clear H
     have H:=H1
     clear H1
     replace H:=Option.bind_eq_some_iff.mp H
     obtain ⟨⟨t255,t256⟩,A140,H⟩:=H
     replace H : ((pointer_Within.f kj7 a1 a2).bind fun bt257=>((pointer_Within.f kj7 a0 a2).bind fun bt259=>(if t256 = 0 then (if bt257.2 = 0 then (if bt259.2 = 0 then (if t255 = true then (if bt257.1 = true then (quarrylaw20_PointerChains.j1 kj7 a0 a1 (!bt259.1)) else (quarrylaw20_PointerChains.j1 kj7 a0 a1 false)) else (quarrylaw20_PointerChains.j1 kj7 a0 a1 false)) else (quarrylaw20_PointerChains.j1 kj7 a0 a1 true)) else (quarrylaw20_PointerChains.j1 kj7 a0 a1 false)) else (quarrylaw20_PointerChains.j1 kj7 a0 a1 false)))) = some r:=H
     have A14:=Aside0.mk A140
     clear A140
     replace H:=Option.bind_eq_some_iff.mp H
     obtain ⟨⟨t257,t258⟩,A150,H⟩:=H
     replace H : ((pointer_Within.f kj7 a0 a2).bind fun bt259=>(if t256 = 0 then (if t258 = 0 then (if bt259.2 = 0 then (if t255 = true then (if t257 = true then (quarrylaw20_PointerChains.j1 kj7 a0 a1 (!bt259.1)) else (quarrylaw20_PointerChains.j1 kj7 a0 a1 false)) else (quarrylaw20_PointerChains.j1 kj7 a0 a1 false)) else (quarrylaw20_PointerChains.j1 kj7 a0 a1 true)) else (quarrylaw20_PointerChains.j1 kj7 a0 a1 false)) else (quarrylaw20_PointerChains.j1 kj7 a0 a1 false))) = some r:=H
     have A15:=Aside0.mk A150
     clear A150
     replace H:=Option.bind_eq_some_iff.mp H
     obtain ⟨⟨t259,t260⟩,A160,H⟩:=H
     replace H : (if t256 = 0 then (if t258 = 0 then (if t260 = 0 then (if t255 = true then (if t257 = true then (quarrylaw20_PointerChains.j1 kj7 a0 a1 (!t259)) else (quarrylaw20_PointerChains.j1 kj7 a0 a1 false)) else (quarrylaw20_PointerChains.j1 kj7 a0 a1 false)) else (quarrylaw20_PointerChains.j1 kj7 a0 a1 true)) else (quarrylaw20_PointerChains.j1 kj7 a0 a1 false)) else (quarrylaw20_PointerChains.j1 kj7 a0 a1 false)) = some r:=H
     have A16:=Aside0.mk A160
     clear A160
     have HC17:=Aside0.mk H
     clear H
     go_upto_region 10 with (first|((with_reducible refine gate_callee (f:=14) rfl ?_);refine goesL_ (some 48) rfl rfl Tryd.func14 (by kernel_rfl) rfl #[.string a0,.string a1] rfl am_ ?_;(with_reducible refine (pointer_Within.calls kj7 a0 a1 t255 t256 _ A14.out).mono ?_);rintro e w18 ⟨rfl,hb⟩;refine ⟨_,rfl,?_⟩;have n0_:=Aside0.mk (below_step (hb_ HB) hb);clear HB;have HB:=n0_;clear n0_;(try clear hb);(try clear hb2);(try clear hk);(try clear hi))|((with_reducible refine gate_callee (f:=14) rfl ?_);refine goesL_ (some 54) rfl rfl Tryd.func14 (by kernel_rfl) rfl #[.string a1,.string a2] rfl am_ ?_;(with_reducible refine (pointer_Within.calls kj7 a1 a2 t257 t258 _ A15.out).mono ?_);rintro e w19 ⟨rfl,hb⟩;refine ⟨_,rfl,?_⟩;have n0_:=Aside0.mk (below_step (hb_ HB) hb);clear HB;have HB:=n0_;clear n0_;(try clear hb);(try clear hb2);(try clear hk);(try clear hi))|((with_reducible refine gate_callee (f:=14) rfl ?_);refine goesL_ (some 60) rfl rfl Tryd.func14 (by kernel_rfl) rfl #[.string a0,.string a2] rfl am_ ?_;(with_reducible refine (pointer_Within.calls kj7 a0 a2 t259 t260 _ A16.out).mono ?_);rintro e w20 ⟨rfl,hb⟩;refine ⟨_,rfl,?_⟩;have n0_:=Aside0.mk (below_step (hb_ HB) hb);clear HB;have HB:=n0_;clear n0_;(try clear hb);(try clear hb2);(try clear hk);(try clear hi)))
     (try simp only [Act.put,List.setIfInBounds_toArray,List.set_cons_zero,List.set_cons_succ])
     go_cut [82] (fun v82 wc=>∃ (kq : Nat) (x82_16 : Bool),v82 = .bool x82_16 ∧ Aside0 (quarrylaw20_PointerChains.j1 kq a0 a1 x82_16 = some r) ∧ Aside0 (kq ≤ kj7) ∧ Aside0 (Below w.heap.size w wc))
     case first =>
      have H:=HC17.out
      clear HC17
      by_cases c21 : t256 = 0
      ·rw [if_pos c21] at H
       have c21b0 : (t256 == 0) = true:=beq_iff_eq.mpr c21
       have c21b1 : (t256 != 0) = false:=bne_eq_false_iff_eq.mpr c21
       clear c21
       (first|rw [c21b0]|(simp only [i64_w,i32_w];rw [c21b0])|skip)
       by_cases c22 : t258 = 0
       ·rw [if_pos c22] at H
        have c22b0 : (t258 == 0) = true:=beq_iff_eq.mpr c22
        have c22b1 : (t258 != 0) = false:=bne_eq_false_iff_eq.mpr c22
        clear c22
        by_cases c23 : t260 = 0
        ·rw [if_pos c23] at H
         have c23b0 : (t260 == 0) = true:=beq_iff_eq.mpr c23
         have c23b1 : (t260 != 0) = false:=bne_eq_false_iff_eq.mpr c23
         clear c23
         by_cases c24 : t255 = true
         ·subst c24
          have H1 : (if t257 = true then (quarrylaw20_PointerChains.j1 kj7 a0 a1 (!t259)) else (quarrylaw20_PointerChains.j1 kj7 a0 a1 false)) = some r:=by rw [if_pos rfl] at H;exact H
          clear H
          have H:=H1
          clear H1
          by_cases c25 : t257 = true
          ·subst c25
           have H1 : (quarrylaw20_PointerChains.j1 kj7 a0 a1 (!t259)) = some r:=by rw [if_pos rfl] at H;exact H
           clear H
           have H:=H1
           clear H1
           have H':=Aside0.mk H
           clear H
           go_wp2
           go_meet
           case rel=>exact ⟨_,(!t259),rr_,(by first|exact H'|(subst_vars;exact H')),⟨by have:=HJ7.out;first|omega|exact Nat.le_refl _⟩,⟨(hb_ HB)⟩⟩
          ·replace c25:=Bool.eq_false_iff.mpr c25
           subst c25
           have H1 : (quarrylaw20_PointerChains.j1 kj7 a0 a1 false) = some r:=by rw [if_neg (show ¬ (false = true) by decide)] at H;exact H
           clear H
           have H:=H1
           clear H1
           have H':=Aside0.mk H
           clear H
           go_wp2
           go_meet
           case rel=>exact ⟨_,(false),rr_,(by first|exact H'|(subst_vars;exact H')),⟨by have:=HJ7.out;first|omega|exact Nat.le_refl _⟩,⟨(hb_ HB)⟩⟩
         ·replace c24:=Bool.eq_false_iff.mpr c24
          subst c24
          have H1 : (quarrylaw20_PointerChains.j1 kj7 a0 a1 false) = some r:=by rw [if_neg (show ¬ (false = true) by decide)] at H;exact H
          clear H
          have H:=H1
          clear H1
          have H':=Aside0.mk H
          clear H
          go_wp2
          go_meet
          case rel=>exact ⟨_,(false),rr_,(by first|exact H'|(subst_vars;exact H')),⟨by have:=HJ7.out;first|omega|exact Nat.le_refl _⟩,⟨(hb_ HB)⟩⟩
        ·rw [if_neg c23] at H
         have c23b0 : (t260 == 0) = false:=beq_eq_false_iff_ne.mpr c23
         have c23b1 : (t260 != 0) = true:=bne_iff_ne.mpr c23
         have H':=Aside0.mk H
         clear H
         go_wp2
         go_meet
         case rel=>exact ⟨_,(true),rr_,(by first|exact H'|(subst_vars;exact H')),⟨by have:=HJ7.out;first|omega|exact Nat.le_refl _⟩,⟨(hb_ HB)⟩⟩
       ·rw [if_neg c22] at H
        have c22b0 : (t258 == 0) = false:=beq_eq_false_iff_ne.mpr c22
        have c22b1 : (t258 != 0) = true:=bne_iff_ne.mpr c22
        have H':=Aside0.mk H
        clear H
        go_wp2
        go_meet
        case rel=>exact ⟨_,(false),rr_,(by first|exact H'|(subst_vars;exact H')),⟨by have:=HJ7.out;first|omega|exact Nat.le_refl _⟩,⟨(hb_ HB)⟩⟩
      ·rw [if_neg c21] at H
       have c21b0 : (t256 == 0) = false:=beq_eq_false_iff_ne.mpr c21
       have c21b1 : (t256 != 0) = true:=bne_iff_ne.mpr c21
       (first|rw [c21b0]|(simp only [i64_w,i32_w];rw [c21b0])|skip)
       have H':=Aside0.mk H
       clear H
       go_wp2
       go_meet
       case rel=>exact ⟨_,(false),rr_,(by first|exact H'|(subst_vars;exact H')),⟨by have:=HJ7.out;first|omega|exact Nat.le_refl _⟩,⟨(hb_ HB)⟩⟩
     case rest =>
      clear HC17
      obtain ⟨kq,x82_16,rfl,HA,HJ16,HB⟩:=hcut
      cases kq with
      | zero=>exact absurd HA.out (by simp [quarrylaw20_PointerChains.j1])
      | succ kj16 =>
       have H:=HA.out
       clear HA
       simp only [quarrylaw20_PointerChains.j1] at H
       by_cases c26 : x82_16 = true
       ·subst c26
        have H1 : (some false) = some r:=by rw [if_pos rfl] at H;exact H
        clear H
        have H:=H1
        clear H1
        obtain rfl:=Option.some.inj H
        go_wp2
        go_ret
        exact ⟨er_,(hb_ HB)⟩
       ·replace c26:=Bool.eq_false_iff.mpr c26
        subst c26
        have H1 : ((pointer_Parse.f a0).bind fun bt261=>((pointer_Parse.f a1).bind fun bt265=>(if a1.size + a0.size ≤ 9223372036854775807 then ((pointer_Within.f kj16 (a1 ++ a0) a1).bind fun bt269=>(if bt261.2 = 0 then (if bt265.2 = 0 then (if bt269.1 = true then (some (bt269.2 == 0)) else (some false)) else (some true)) else (some true))) else (none)))) = some r:=by rw [if_neg (show ¬ (false = true) by decide)] at H;exact H
        clear H
        have H:=H1
        clear H1
        replace H:=Option.bind_eq_some_iff.mp H
        obtain ⟨⟨t261,t262⟩,A270,H⟩:=H
        replace H : ((pointer_Parse.f a1).bind fun bt265=>(if a1.size + a0.size ≤ 9223372036854775807 then ((pointer_Within.f kj16 (a1 ++ a0) a1).bind fun bt269=>(if t262 = 0 then (if bt265.2 = 0 then (if bt269.1 = true then (some (bt269.2 == 0)) else (some false)) else (some true)) else (some true))) else (none))) = some r:=H
        have A27:=Aside0.mk A270
        clear A270
        replace H:=Option.bind_eq_some_iff.mp H
        obtain ⟨⟨t265,t266⟩,A280,H⟩:=H
        replace H : (if a1.size + a0.size ≤ 9223372036854775807 then ((pointer_Within.f kj16 (a1 ++ a0) a1).bind fun bt269=>(if t262 = 0 then (if t266 = 0 then (if bt269.1 = true then (some (bt269.2 == 0)) else (some false)) else (some true)) else (some true))) else (none)) = some r:=H
        have A28:=Aside0.mk A280
        clear A280
        by_cases c29 : a1.size + a0.size ≤ 9223372036854775807
        ·rw [if_pos c29] at H
         have c29b0:=eq_true c29
         have c29b1 : decide (a1.size + a0.size ≤ 9223372036854775807) = true:=decide_eq_true c29
         try have c29b2 : (9223372036854775807 < a1.size + a0.size) = False:=eq_false (Nat.not_lt.2 c29)
         replace H:=Option.bind_eq_some_iff.mp H
         obtain ⟨⟨t269,t270⟩,A300,H⟩:=H
         replace H : (if t262 = 0 then (if t266 = 0 then (if t269 = true then (some (t270 == 0)) else (some false)) else (some true)) else (some true)) = some r:=H
         have A30:=Aside0.mk A300
         clear A300
         by_cases c31 : t262 = 0
         ·rw [if_pos c31] at H
          have c31b0 : (t262 == 0) = true:=beq_iff_eq.mpr c31
          have c31b1 : (t262 != 0) = false:=bne_eq_false_iff_eq.mpr c31
          clear c31
          by_cases c32 : t266 = 0
          ·rw [if_pos c32] at H
           have c32b0 : (t266 == 0) = true:=beq_iff_eq.mpr c32
           have c32b1 : (t266 != 0) = false:=bne_eq_false_iff_eq.mpr c32
           clear c32
           by_cases c33 : t269 = true
           ·subst c33
            have H1 : (some (t270 == 0)) = some r:=by rw [if_pos rfl] at H;exact H
            clear H
            have H:=H1
            clear H1
            obtain rfl:=Option.some.inj H
            go_wp2_with (first|((with_reducible refine gate_callee (f:=15) rfl ?_);refine goesL_ (some 85) rfl rfl Tryd.func15 (by kernel_rfl) rfl #[.string a0] rfl am_ ?_;(with_reducible refine (pointer_Parse.calls a0 t261 t262 _ A27.out).mono ?_);rintro e w34 ⟨v263,rfl,ho0,hb⟩;refine ⟨_,rfl,?_⟩;have n_:=J_ (Kd.R_lower ho0 (below_size (hb_ HB))) (Aside0.mk (below_step (hb_ HB) hb));clear HB;obtain ⟨HO264,HB⟩:=n_;(try clear hb);(try clear hb2);(try clear hk);(try clear hi);(try clear ho0))|((with_reducible refine gate_callee (f:=15) rfl ?_);refine goesL_ (some 90) rfl rfl Tryd.func15 (by kernel_rfl) rfl #[.string a1] rfl am_ ?_;(with_reducible refine (pointer_Parse.calls a1 t265 t266 _ A28.out).mono ?_);rintro e w35 ⟨v267,rfl,ho0,hb⟩;refine ⟨_,rfl,?_⟩;have n_:=J_ (Kd.R_elder' (rk_ HO264) (Kd.R_base ho0) hb) (J_ (Kd.R_lower (Kd.R_new' ho0 (Kd.R_lt (rk_ HO264))) (below_size (hb_ HB))) (Aside0.mk (below_step (hb_ HB) hb)));clear HO264 HB;obtain ⟨HO264,HO268,HB⟩:=n_;(try clear hb);(try clear hb2);(try clear hk);(try clear hi);(try clear ho0))|((with_reducible refine gate_callee (f:=14) rfl ?_);refine goesL_ (some 98) rfl rfl Tryd.func14 (by kernel_rfl) rfl #[.string (a1 ++ a0),.string a1] rfl am_ ?_;(with_reducible refine (pointer_Within.calls kj16 (a1 ++ a0) a1 true t270 _ A30.out).mono ?_);rintro e w36 ⟨rfl,hb⟩;refine ⟨_,rfl,?_⟩;have n_:=J_ (Kd.R_below (rk_ HO264) hb) (J_ (Kd.R_below (rk_ HO268) hb) (Aside0.mk (below_step (hb_ HB) hb)));clear HO264 HO268 HB;obtain ⟨HO264,HO268,HB⟩:=n_;(try clear hb);(try clear hb2);(try clear hk);(try clear hi)))
            go_ret
            exact ⟨er_,(hb_ HB)⟩
           ·replace c33:=Bool.eq_false_iff.mpr c33
            subst c33
            have H1 : (some false) = some r:=by rw [if_neg (show ¬ (false = true) by decide)] at H;exact H
            clear H
            have H:=H1
            clear H1
            obtain rfl:=Option.some.inj H
            go_wp2_with (first|((with_reducible refine gate_callee (f:=15) rfl ?_);refine goesL_ (some 85) rfl rfl Tryd.func15 (by kernel_rfl) rfl #[.string a0] rfl am_ ?_;(with_reducible refine (pointer_Parse.calls a0 t261 t262 _ A27.out).mono ?_);rintro e w37 ⟨v263,rfl,ho0,hb⟩;refine ⟨_,rfl,?_⟩;have n_:=J_ (Kd.R_lower ho0 (below_size (hb_ HB))) (Aside0.mk (below_step (hb_ HB) hb));clear HB;obtain ⟨HO264,HB⟩:=n_;(try clear hb);(try clear hb2);(try clear hk);(try clear hi);(try clear ho0))|((with_reducible refine gate_callee (f:=15) rfl ?_);refine goesL_ (some 90) rfl rfl Tryd.func15 (by kernel_rfl) rfl #[.string a1] rfl am_ ?_;(with_reducible refine (pointer_Parse.calls a1 t265 t266 _ A28.out).mono ?_);rintro e w38 ⟨v267,rfl,ho0,hb⟩;refine ⟨_,rfl,?_⟩;have n_:=J_ (Kd.R_elder' (rk_ HO264) (Kd.R_base ho0) hb) (J_ (Kd.R_lower (Kd.R_new' ho0 (Kd.R_lt (rk_ HO264))) (below_size (hb_ HB))) (Aside0.mk (below_step (hb_ HB) hb)));clear HO264 HB;obtain ⟨HO264,HO268,HB⟩:=n_;(try clear hb);(try clear hb2);(try clear hk);(try clear hi);(try clear ho0))|((with_reducible refine gate_callee (f:=14) rfl ?_);refine goesL_ (some 98) rfl rfl Tryd.func14 (by kernel_rfl) rfl #[.string (a1 ++ a0),.string a1] rfl am_ ?_;(with_reducible refine (pointer_Within.calls kj16 (a1 ++ a0) a1 false t270 _ A30.out).mono ?_);rintro e w39 ⟨rfl,hb⟩;refine ⟨_,rfl,?_⟩;have n_:=J_ (Kd.R_below (rk_ HO264) hb) (J_ (Kd.R_below (rk_ HO268) hb) (Aside0.mk (below_step (hb_ HB) hb)));clear HO264 HO268 HB;obtain ⟨HO264,HO268,HB⟩:=n_;(try clear hb);(try clear hb2);(try clear hk);(try clear hi)))
            go_ret
            exact ⟨er_,(hb_ HB)⟩
          ·rw [if_neg c32] at H
           have c32b0 : (t266 == 0) = false:=beq_eq_false_iff_ne.mpr c32
           have c32b1 : (t266 != 0) = true:=bne_iff_ne.mpr c32
           obtain rfl:=Option.some.inj H
           go_wp2_with (first|((with_reducible refine gate_callee (f:=15) rfl ?_);refine goesL_ (some 85) rfl rfl Tryd.func15 (by kernel_rfl) rfl #[.string a0] rfl am_ ?_;(with_reducible refine (pointer_Parse.calls a0 t261 t262 _ A27.out).mono ?_);rintro e w40 ⟨v263,rfl,ho0,hb⟩;refine ⟨_,rfl,?_⟩;have n_:=J_ (Kd.R_lower ho0 (below_size (hb_ HB))) (Aside0.mk (below_step (hb_ HB) hb));clear HB;obtain ⟨HO264,HB⟩:=n_;(try clear hb);(try clear hb2);(try clear hk);(try clear hi);(try clear ho0))|((with_reducible refine gate_callee (f:=15) rfl ?_);refine goesL_ (some 90) rfl rfl Tryd.func15 (by kernel_rfl) rfl #[.string a1] rfl am_ ?_;(with_reducible refine (pointer_Parse.calls a1 t265 t266 _ A28.out).mono ?_);rintro e w41 ⟨v267,rfl,ho0,hb⟩;refine ⟨_,rfl,?_⟩;have n_:=J_ (Kd.R_elder' (rk_ HO264) (Kd.R_base ho0) hb) (J_ (Kd.R_lower (Kd.R_new' ho0 (Kd.R_lt (rk_ HO264))) (below_size (hb_ HB))) (Aside0.mk (below_step (hb_ HB) hb)));clear HO264 HB;obtain ⟨HO264,HO268,HB⟩:=n_;(try clear hb);(try clear hb2);(try clear hk);(try clear hi);(try clear ho0))|((with_reducible refine gate_callee (f:=14) rfl ?_);refine goesL_ (some 98) rfl rfl Tryd.func14 (by kernel_rfl) rfl #[.string (a1 ++ a0),.string a1] rfl am_ ?_;(with_reducible refine (pointer_Within.calls kj16 (a1 ++ a0) a1 t269 t270 _ A30.out).mono ?_);rintro e w42 ⟨rfl,hb⟩;refine ⟨_,rfl,?_⟩;have n_:=J_ (Kd.R_below (rk_ HO264) hb) (J_ (Kd.R_below (rk_ HO268) hb) (Aside0.mk (below_step (hb_ HB) hb)));clear HO264 HO268 HB;obtain ⟨HO264,HO268,HB⟩:=n_;(try clear hb);(try clear hb2);(try clear hk);(try clear hi)))
           go_ret
           exact ⟨er_,(hb_ HB)⟩
         ·rw [if_neg c31] at H
          have c31b0 : (t262 == 0) = false:=beq_eq_false_iff_ne.mpr c31
          have c31b1 : (t262 != 0) = true:=bne_iff_ne.mpr c31
          obtain rfl:=Option.some.inj H
          go_wp2_with (first|((with_reducible refine gate_callee (f:=15) rfl ?_);refine goesL_ (some 85) rfl rfl Tryd.func15 (by kernel_rfl) rfl #[.string a0] rfl am_ ?_;(with_reducible refine (pointer_Parse.calls a0 t261 t262 _ A27.out).mono ?_);rintro e w43 ⟨v263,rfl,ho0,hb⟩;refine ⟨_,rfl,?_⟩;have n_:=J_ (Kd.R_lower ho0 (below_size (hb_ HB))) (Aside0.mk (below_step (hb_ HB) hb));clear HB;obtain ⟨HO264,HB⟩:=n_;(try clear hb);(try clear hb2);(try clear hk);(try clear hi);(try clear ho0))|((with_reducible refine gate_callee (f:=15) rfl ?_);refine goesL_ (some 90) rfl rfl Tryd.func15 (by kernel_rfl) rfl #[.string a1] rfl am_ ?_;(with_reducible refine (pointer_Parse.calls a1 t265 t266 _ A28.out).mono ?_);rintro e w44 ⟨v267,rfl,ho0,hb⟩;refine ⟨_,rfl,?_⟩;have n_:=J_ (Kd.R_elder' (rk_ HO264) (Kd.R_base ho0) hb) (J_ (Kd.R_lower (Kd.R_new' ho0 (Kd.R_lt (rk_ HO264))) (below_size (hb_ HB))) (Aside0.mk (below_step (hb_ HB) hb)));clear HO264 HB;obtain ⟨HO264,HO268,HB⟩:=n_;(try clear hb);(try clear hb2);(try clear hk);(try clear hi);(try clear ho0))|((with_reducible refine gate_callee (f:=14) rfl ?_);refine goesL_ (some 98) rfl rfl Tryd.func14 (by kernel_rfl) rfl #[.string (a1 ++ a0),.string a1] rfl am_ ?_;(with_reducible refine (pointer_Within.calls kj16 (a1 ++ a0) a1 t269 t270 _ A30.out).mono ?_);rintro e w45 ⟨rfl,hb⟩;refine ⟨_,rfl,?_⟩;have n_:=J_ (Kd.R_below (rk_ HO264) hb) (J_ (Kd.R_below (rk_ HO268) hb) (Aside0.mk (below_step (hb_ HB) hb)));clear HO264 HO268 HB;obtain ⟨HO264,HO268,HB⟩:=n_;(try clear hb);(try clear hb2);(try clear hk);(try clear hi)))
          go_ret
          exact ⟨er_,(hb_ HB)⟩
        ·rw [if_neg c29] at H
         exact absurd H (by simp)
 ·replace c5:=Bool.eq_false_iff.mpr c5
  subst c5
  have H1 : (some false) = some r:=by rw [if_neg (show ¬ (false = true) by decide)] at H;exact H
  clear H
  have H:=H1
  clear H1
  obtain rfl:=Option.some.inj H
  go_enter Tryd.func4,Tryd.ntmps4
  go_wp2_with (first|((with_reducible refine gate_callee (f:=13) rfl ?_);refine goesL_ (some 21) rfl rfl Tryd.func13 (by kernel_rfl) rfl #[] rfl am_ ?_;(with_reducible refine (quarrylaw20_awake.calls k  false _ A4.out).mono ?_);rintro e w46 ⟨rfl,hb⟩;refine ⟨_,rfl,?_⟩;have n0_:=Aside0.mk (below_step (hb_ HB) hb);clear HB;have HB:=n0_;clear n0_;(try clear hb);(try clear hb2);(try clear hk);(try clear hi)))
  go_ret
  exact ⟨er_,(hb_ HB)⟩
end Go.Proofs.YtppenppagkfigaaDoor.PPointerChains
