-- Written by shrink.py, a program of this session: what the law needs of the print and its words. Lean checks it.
import Derived.Test.YtlgamjgdkljfiaaZPTallyBeginsx0
import Derived.Test.YtlgamjgdkljfiaaZPTallyBeginsx4
import Derived.Test.YtlgamjgdkljfiaaZPTallyBeginsx9
import Derived.IntWalk
import Derived.WalkMore
import Derived.Deep.QuietTactic
import Derived.BigQuiet
import Derived.StillTailTactics
namespace Go.Proofs.Ytlgamjgdkljfiaa.PTallyBegins
open Go.RowKit Go.Proofs.YtlgamjgdkljfiaaW.PrintWords Go.Proofs.YtlgamjgdkljfiaaW.PrintLast Go.Proofs.YtlgamjgdkljfiaaW.PrintMore
attribute [local go_sem] run_fadd run_fsub run_fmul run_fquo unary_fneg run_store_f64 run_store_c128 run_cadd
attribute [local go_sem] max2_int min2_int max_two min_two max_three min_three max_four min_four
set_option linter.unusedVariables false
set_option linter.unusedSimpArgs false
def toneSum (n : Nat) : List Nat → Nat → Nat × Nat → Option (Nat × Nat)
 | [],_,a=>some a
 | x :: l,j,a=>if fok .add a.1 (turnV x (((n : Int) * ((j : Int) % 4)) % 4)).1 = true then (if fok .add a.2 (turnV x (((n : Int) * ((j : Int) % 4)) % 4)).2 = true then toneSum n l (j + 1) (fop .add a.1 (turnV x (((n : Int) * ((j : Int) % 4)) % 4)).1,fop .add a.2 (turnV x (((n : Int) * ((j : Int) % 4)) % 4)).2) else none) else none
def tonesGo (k : Nat) (l : List Nat) : Nat → List (Nat × Nat) → Option (List (Nat × Nat) × Int)
 | 0,P=>some (P,0)
 | d + 1,P=>(toneSum P.length l 0 (0,0)).bind fun p=>(tally_finite.f k [p.1,p.2]).bind fun t=>if t = true then tonesGo k l d (P ++ [p]) else some ([(0,0),(0,0),(0,0),(0,0)],121)
def tally_Tones.ps (k : Nat) (l : List Nat) : Option (List (Nat × Nat) × Int):=(tally_finite.f k l).bind fun t=>if t = true then tonesGo k l 4 [] else some ([(0,0),(0,0),(0,0),(0,0)],130)
def padT (P : List (Nat × Nat)) : Array Value:=#[.complex .f64 (P.getD 0 (0,0)).1 (P.getD 0 (0,0)).2,.complex .f64 (P.getD 1 (0,0)).1 (P.getD 1 (0,0)).2,.complex .f64 (P.getD 2 (0,0)).1 (P.getD 2 (0,0)).2,.complex .f64 (P.getD 3 (0,0)).1 (P.getD 3 (0,0)).2]
theorem f64_two {W : World} {b : Nat} {x y : Nat} {t : TypeId} (h : W.heap[b]? = some (.cells #[.float .f64 x,.float .f64 y] t (0,0))) : Kd.C Kd.f64 W (some ⟨b,0,none⟩) [x,y].length [x,y]:=by
 refine ⟨rfl,by simp,fun _=>⟨⟨b,0,none⟩,rfl,fun j p hp=>?_⟩⟩;have hj : j < 2:=(List.getElem?_eq_some_iff.1 hp).1
 have ha : ∀ j,j < 2 → (⟨b,0,none⟩ : Addr).add (j * 1 + 0) = ⟨b,j,none⟩:=by
  intro j hj
  match j,hj with
  | 0,_=>rfl
  | 1,_=>rfl
 refine ⟨[.float .f64 p],rfl,rfl,fun i u hu=>?_⟩;have hi : i < 1:=(List.getElem?_eq_some_iff.1 hu).1
 have hi0 : i = 0:=by omega
 subst hi0;have hu' : Value.float .f64 p = u:=Option.some.inj hu;subst hu'
 show W.cell? ((⟨b,0,none⟩ : Addr).add (j * 1 + 0)) = _
 rw [ha j hj,blk_cell h]
 match j,hj,hp with
 | 0,_,hp=>obtain rfl:=Option.some.inj hp;rfl
 | 1,_,hp=>obtain rfl:=Option.some.inj hp;rfl
set_option maxHeartbeats 8000000 in
set_option maxRecDepth 100000 in
theorem tones_calls (k : Nat) (A0 : Option Addr) (c0 : Nat) (l : List Nat) (ps : List (Nat × Nat)) (r : Int) (w : World) (hr0 : Kd.C Kd.f64 w A0 l.length l) (hc0 : l.length ≤ c0) (h : tally_Tones.ps k l = some (ps,r)) :
  Calls Try.prog 34 #[.slice A0 l.length c0] w fun e w'=>∃ p0 p1 p2 p3 : Nat × Nat,ps = [p0,p1,p2,p3] ∧ e = .returned (.tuple #[.agg #[.complex .f64 p0.1 p0.2,.complex .f64 p1.1 p1.2,.complex .f64 p2.1 p2.2,.complex .f64 p3.1 p3.2],.int .i64 r]) ∧ Below w.heap.size w w':=by
 have HR:=Aside0.mk hr0;have hmax:=Kd.C_max hr0;clear hr0
 unfold tally_Tones.ps at h
 obtain ⟨t,ht,h⟩:=Option.bind_eq_some_iff.mp h;have HT:=Aside0.mk ht;clear ht
 by_cases c1 : t = true
 ·subst c1
  rw [if_pos rfl] at h
  have HG:=Aside0.mk h;clear h;go_enter Try.func34,Try.ntmps34
  go_wp2_with fail
  refine (tally_finite.calls k A0 c0 l true _ (Kd.C_alloc HR.out _) hc0 HT.out).mono ?_;rintro e w1 ⟨rfl,nd,rfl⟩;have R1:=Aside0.mk (show ((w.alloc (.cells #[.complex .f64 0 0,.complex .f64 0 0,.complex .f64 0 0,.complex .f64 0 0] 63)).drewN nd).heap[w.heap.size]? = some (.cells #[.complex .f64 0 0,.complex .f64 0 0,.complex .f64 0 0,.complex .f64 0 0] 63 (0,0)) from blk_drewN (blk_new w _) nd);have B1:=Aside0.mk (show Below w.heap.size w ((w.alloc (.cells #[.complex .f64 0 0,.complex .f64 0 0,.complex .f64 0 0,.complex .f64 0 0] 63)).drewN nd) from pw_below_drewN ((Below.refl w.heap.size w).alloc (Nat.le_refl _) _) nd)
  obtain ⟨W1,hW1⟩ : ∃ W1,W1 = (w.alloc (.cells #[.complex .f64 0 0,.complex .f64 0 0,.complex .f64 0 0,.complex .f64 0 0] 63)).drewN nd:=⟨_,rfl⟩
  rw [← hW1] at R1 B1 ⊢
  clear hW1;have hz1 : w.heap.size < W1.heap.size:=blk_lt R1.out;obtain ⟨r0,r1,r2,r3,fr0,fr1,fr2,fr3⟩:=cf4_ R1
  go_wp2_with fail
  clear r0 r1 r2 r3 fr0 fr1 fr2 fr3
  obtain ⟨W2,hW2⟩ : ∃ W2,W2 = (W1.alloc (.cells #[.complex .f64 0 0,.complex .f64 0 0,.complex .f64 0 0,.complex .f64 0 0] 63)):=⟨_,rfl⟩
  have G2:=Aside0.mk (show W2.heap[W1.heap.size]? = some (.cells #[.complex .f64 0 0,.complex .f64 0 0,.complex .f64 0 0,.complex .f64 0 0] 63 (0,0)) from by rw [hW2];exact blk_new W1 _);have R2:=Aside0.mk (show W2.heap[w.heap.size]? = some (.cells #[.complex .f64 0 0,.complex .f64 0 0,.complex .f64 0 0,.complex .f64 0 0] 63 (0,0)) from by rw [hW2];exact blk_alloc R1.out _);have B2:=Aside0.mk (show Below w.heap.size w W2 from by rw [hW2];exact below_alloc B1.out _);rw [← hW2];clear hW2
  obtain ⟨g,hgg⟩ : ∃ g,g = W1.heap.size:=⟨_,rfl⟩
  rw [← hgg] at G2 hz1 ⊢
  have hgw:=hz1;have NG:=Aside0.mk (show w.heap.size ≠ g by omega);have GB:=Aside0.mk (show w.heap.size ≤ g by omega);clear hgg hz1 R1 B1
  go_loopw [12] (fun i wr=>∃ (n : Nat) (P : List (Nat × Nat)),P.length = n ∧ n ≤ 4 ∧ i = .int .i64 n ∧ tonesGo k l (4 - n) P = some (ps,r) ∧ wr.heap[g]? = some (.cells (padT P) 63 (0,0)) ∧ wr.heap[w.heap.size]? = some (.cells #[.complex .f64 0 0,.complex .f64 0 0,.complex .f64 0 0,.complex .f64 0 0] 63 (0,0)) ∧ Below w.heap.size w wr) (fun i _=>4 - (intOf i).toNat)
  case atStart=>exact ⟨0,[],rfl,by omega,by go_num,HG.out,G2.out,R2.out,B2.out⟩
  case round =>
   obtain ⟨n,P,hP,hn,hi,hgo,hG,hR,hB⟩:=hrel;have GO:=Aside0.mk hgo;have G:=Aside0.mk hG;have R:=Aside0.mk hR;have B:=Aside0.mk hB;clear hgo hG hR hB G2 R2 B2 HG
   rcases P with _|⟨p0,_|⟨p1,_|⟨p2,_|⟨p3,_|⟨p4,P⟩⟩⟩⟩⟩
   ·
    obtain rfl : n = 0:=hP.symm;have hi':=hi.trans (show Value.int .i64 ((0 : Nat) : Int) = .int .i64 0 from rfl);clear hi hP hn;subst hi';have h2 : tonesGo k l (3 + 1) [] = some (ps,r):=GO.out;clear GO
    rw [tonesGo] at h2
    obtain ⟨p,hp,h2⟩:=Option.bind_eq_some_iff.mp h2;obtain ⟨u,hu,h2⟩:=Option.bind_eq_some_iff.mp h2;have HP:=Aside0.mk (show toneSum 0 l 0 (0,0) = some p from hp);have HU:=Aside0.mk hu;have H2:=Aside0.mk h2;clear hp hu h2
    go_wp2_with fail
    go_loopw [17] (fun i wx=>∃ (j : Nat) (acc : Nat × Nat),j ≤ l.length ∧ i = .int .i64 j ∧ toneSum 0 (l.drop j) j acc = some p ∧ wx.heap[g]? = some (.cells #[.complex .f64 acc.1 acc.2,.complex .f64 0 0,.complex .f64 0 0,.complex .f64 0 0] 63 (0,0)) ∧ wx.heap[w.heap.size]? = some (.cells #[.complex .f64 0 0,.complex .f64 0 0,.complex .f64 0 0,.complex .f64 0 0] 63 (0,0)) ∧ Below w.heap.size w wx) (fun i _=>l.length - (intOf i).toNat)
    case atStart=>exact ⟨0,(0,0),Nat.zero_le _,by go_num,HP.out,G.out,R.out,B.out⟩
    case round =>
     obtain ⟨j,acc,hj,rfl,ha,hg,hr,hb⟩:=hrel;have HA:=Aside0.mk ha;have G3:=Aside0.mk hg;have R3:=Aside0.mk hr;have B3:=Aside0.mk hb;clear ha hg hr G R B HP
     by_cases hlt : j < l.length
     ·have hd : l.drop j = l[j] :: l.drop (j + 1):=List.drop_eq_getElem_cons hlt;have h3:=HA.out
      rw [hd,toneSum] at h3
      obtain ⟨m,hm⟩ : ∃ m,m = ((0 : Nat) : Int) * ((j : Int) % 4) % 4:=⟨_,rfl⟩
      rw [← hm] at h3
      have HM:=Aside0.mk hm;clear hm
      have f1 : fok .add acc.1 (turnV l[j] m).1 = true:=Classical.byContradiction fun g_=>by rw [if_neg g_] at h3;cases h3
      rw [if_pos f1] at h3
      have f2 : fok .add acc.2 (turnV l[j] m).2 = true:=Classical.byContradiction fun g_=>by rw [if_neg g_] at h3;cases h3
      rw [if_pos f2] at h3
      have H3:=Aside0.mk h3;clear h3 hd HA;obtain ⟨ad,rfl,x0⟩:=Kd.at_f64 (Kd.C_below HR.out hb) (j : Int) (by omega) (by omega)
      have ea : rdOf (0 : Nat) l (j : Int) = l[j]:=by unfold rdOf;simp [hlt]
      rw [ea,Int.toNat_natCast] at x0
      clear hb ea;obtain ⟨g0,g1,g2,g3,fg0,fg1,fg2,fg3⟩:=cf4_ G3
      go_upto_region 10 with fail
      have hwr : IntKind.i64.wrap 0 = 0:=IntWalk.i64_in _ (by omega);have htm : Int.tmod (j : Int) 4 = (j : Int) % 4:=Int.tmod_eq_emod_of_nonneg (by omega)
      go_still_tail 11,(by kernel_rfl)
      still_call (turned_at l[j] _ m _ (by omega) (by omega) (by have:=HM.out;omega))
      repeat still_step
      refine wpStill_nil ?_
      change wpList _ _ _ _ _ wr.drew
      go_wp2
      exact ⟨⟨j + 1,(fop .add acc.1 (turnV l[j] m).1,fop .add acc.2 (turnV l[j] m).2),by omega,by go_num,H3.out,blk_drew (blk_put G3.out 0 _ rfl),blk_drew (blk_far R3.out (p:=⟨g,0,none⟩) NG.out _),below_drew1 (below_set B3.out GB.out)⟩,by simp [intOf];omega⟩
     have hje : l.length ≤ j:=by omega
     have h4:=HA.out
     rw [List.drop_of_length_le hje,toneSum] at h4
     obtain rfl:=Option.some.inj h4;clear h4 HA hb hje;obtain ⟨g0,g1,g2,g3,fg0,fg1,fg2,fg3⟩:=cf4_ G3
     go_upto_region 12 with fail
     go_still_tail 8,(by kernel_rfl)
     change wpList _ _ _ _ _ wr.drew
     go_wp2_with fail
     have hl2 : Kd.C Kd.f64 (wr.drew.alloc (.cells #[.float .f64 acc.1,.float .f64 acc.2] 27)) (some ⟨wr.heap.size,0,none⟩) [acc.1,acc.2].length [acc.1,acc.2]:=f64_two (blk_new wr.drew _);refine (tally_finite.calls k _ _ [acc.1,acc.2] u _ hl2 (Nat.le_refl _) HU.out).mono ?_;rintro e w3 ⟨rfl,nd3,rfl⟩;have G4:=Aside0.mk (show ((wr.drew.alloc (.cells #[.float .f64 acc.1,.float .f64 acc.2] 27)).drewN nd3).heap[g]? = some (.cells #[.complex .f64 acc.1 acc.2,.complex .f64 0 0,.complex .f64 0 0,.complex .f64 0 0] 63 (0,0)) from blk_drewN (blk_alloc (blk_drew G3.out) _) nd3);have R4:=Aside0.mk (show ((wr.drew.alloc (.cells #[.float .f64 acc.1,.float .f64 acc.2] 27)).drewN nd3).heap[w.heap.size]? = some (.cells #[.complex .f64 0 0,.complex .f64 0 0,.complex .f64 0 0,.complex .f64 0 0] 63 (0,0)) from blk_drewN (blk_alloc (blk_drew R3.out) _) nd3);have B4:=Aside0.mk (show Below w.heap.size w ((wr.drew.alloc (.cells #[.float .f64 acc.1,.float .f64 acc.2] 27)).drewN nd3) from pw_below_drewN (below_alloc (below_drew1 B3.out) _) nd3);clear g0 g1 g2 g3 fg0 fg1 fg2 fg3 hl2 G3 R3 B3
     obtain ⟨W4,hW4⟩ : ∃ W4,W4 = ((wr.drew.alloc (.cells #[.float .f64 acc.1,.float .f64 acc.2] 27)).drewN nd3):=⟨_,rfl⟩
     rw [← hW4] at G4 R4 B4 ⊢
     clear hW4;obtain ⟨r0,r1,r2,r3,fr0,fr1,fr2,fr3⟩:=cf4_ R4;have h5:=H2.out;clear H2
     cases u with
     | true =>
      rw [if_pos rfl] at h5
      have H5:=Aside0.mk h5;clear h5;go_wp2
      exact ⟨⟨1,[acc],rfl,by omega,by first|rfl|go_num,H5.out,G4.out,R4.out,B4.out⟩,by simp [intOf]⟩
     | false =>
      rw [if_neg (by decide)] at h5
      simp only [Option.some.injEq,Prod.mk.injEq] at h5
      obtain ⟨rfl,rfl⟩:=h5;go_wp2
      refine bodyPost_ret (results_ct rfl _ _ w.heap.size 63 #[.complex .f64 0 0,.complex .f64 0 0,.complex .f64 0 0,.complex .f64 0 0] (0,0) _ rfl (by
       refine blk_put (cs:=#[.complex .f64 0 0,.complex .f64 0 0,.complex .f64 0 0,.complex .f64 0 0]) ?_ 3 _ rfl;refine blk_put (cs:=#[.complex .f64 0 0,.complex .f64 0 0,.complex .f64 0 0,.complex .f64 0 0]) ?_ 2 _ rfl;refine blk_put (cs:=#[.complex .f64 0 0,.complex .f64 0 0,.complex .f64 0 0,.complex .f64 0 0]) ?_ 1 _ rfl;refine blk_put (cs:=#[.complex .f64 0 0,.complex .f64 0 0,.complex .f64 0 0,.complex .f64 0 0]) ?_ 0 _ rfl
       exact R4.out) Try.underlying63 rfl (by kernel_rfl)) rfl ?_
      exact ⟨(0,0),(0,0),(0,0),(0,0),rfl,rfl,below_set (below_set (below_set (below_set (B4.out) (Nat.le_refl _)) (Nat.le_refl _)) (Nat.le_refl _)) (Nat.le_refl _)⟩
   ·
    obtain rfl : n = 1:=hP.symm;have hi':=hi.trans (show Value.int .i64 ((1 : Nat) : Int) = .int .i64 1 from rfl);clear hi hP hn;subst hi';have h2 : tonesGo k l (2 + 1) [p0] = some (ps,r):=GO.out;clear GO
    rw [tonesGo] at h2
    obtain ⟨p,hp,h2⟩:=Option.bind_eq_some_iff.mp h2;obtain ⟨u,hu,h2⟩:=Option.bind_eq_some_iff.mp h2;have HP:=Aside0.mk (show toneSum 1 l 0 (0,0) = some p from hp);have HU:=Aside0.mk hu;have H2:=Aside0.mk h2;clear hp hu h2
    go_wp2_with fail
    go_loopw [17] (fun i wx=>∃ (j : Nat) (acc : Nat × Nat),j ≤ l.length ∧ i = .int .i64 j ∧ toneSum 1 (l.drop j) j acc = some p ∧ wx.heap[g]? = some (.cells #[.complex .f64 p0.1 p0.2,.complex .f64 acc.1 acc.2,.complex .f64 0 0,.complex .f64 0 0] 63 (0,0)) ∧ wx.heap[w.heap.size]? = some (.cells #[.complex .f64 0 0,.complex .f64 0 0,.complex .f64 0 0,.complex .f64 0 0] 63 (0,0)) ∧ Below w.heap.size w wx) (fun i _=>l.length - (intOf i).toNat)
    case atStart=>exact ⟨0,(0,0),Nat.zero_le _,by go_num,HP.out,G.out,R.out,B.out⟩
    case round =>
     obtain ⟨j,acc,hj,rfl,ha,hg,hr,hb⟩:=hrel;have HA:=Aside0.mk ha;have G3:=Aside0.mk hg;have R3:=Aside0.mk hr;have B3:=Aside0.mk hb;clear ha hg hr G R B HP
     by_cases hlt : j < l.length
     ·have hd : l.drop j = l[j] :: l.drop (j + 1):=List.drop_eq_getElem_cons hlt;have h3:=HA.out
      rw [hd,toneSum] at h3
      obtain ⟨m,hm⟩ : ∃ m,m = ((1 : Nat) : Int) * ((j : Int) % 4) % 4:=⟨_,rfl⟩
      rw [← hm] at h3
      have HM:=Aside0.mk hm;clear hm
      have f1 : fok .add acc.1 (turnV l[j] m).1 = true:=Classical.byContradiction fun g_=>by rw [if_neg g_] at h3;cases h3
      rw [if_pos f1] at h3
      have f2 : fok .add acc.2 (turnV l[j] m).2 = true:=Classical.byContradiction fun g_=>by rw [if_neg g_] at h3;cases h3
      rw [if_pos f2] at h3
      have H3:=Aside0.mk h3;clear h3 hd HA;obtain ⟨ad,rfl,x0⟩:=Kd.at_f64 (Kd.C_below HR.out hb) (j : Int) (by omega) (by omega)
      have ea : rdOf (0 : Nat) l (j : Int) = l[j]:=by unfold rdOf;simp [hlt]
      rw [ea,Int.toNat_natCast] at x0
      clear hb ea;obtain ⟨g0,g1,g2,g3,fg0,fg1,fg2,fg3⟩:=cf4_ G3
      go_upto_region 10 with fail
      have hwr : IntKind.i64.wrap ((j : Int) % 4) = ((j : Int) % 4):=IntWalk.i64_in _ (by omega);have htm : Int.tmod (j : Int) 4 = (j : Int) % 4:=Int.tmod_eq_emod_of_nonneg (by omega)
      go_still_tail 11,(by kernel_rfl)
      still_call (turned_at l[j] _ m _ (by omega) (by omega) (by have:=HM.out;omega))
      repeat still_step
      refine wpStill_nil ?_
      change wpList _ _ _ _ _ wr.drew
      go_wp2
      exact ⟨⟨j + 1,(fop .add acc.1 (turnV l[j] m).1,fop .add acc.2 (turnV l[j] m).2),by omega,by go_num,H3.out,blk_drew (blk_put G3.out 1 _ rfl),blk_drew (blk_far R3.out (p:=⟨g,1,none⟩) NG.out _),below_drew1 (below_set B3.out GB.out)⟩,by simp [intOf];omega⟩
     have hje : l.length ≤ j:=by omega
     have h4:=HA.out
     rw [List.drop_of_length_le hje,toneSum] at h4
     obtain rfl:=Option.some.inj h4;clear h4 HA hb hje;obtain ⟨g0,g1,g2,g3,fg0,fg1,fg2,fg3⟩:=cf4_ G3
     go_upto_region 12 with fail
     go_still_tail 8,(by kernel_rfl)
     change wpList _ _ _ _ _ wr.drew
     go_wp2_with fail
     have hl2 : Kd.C Kd.f64 (wr.drew.alloc (.cells #[.float .f64 acc.1,.float .f64 acc.2] 27)) (some ⟨wr.heap.size,0,none⟩) [acc.1,acc.2].length [acc.1,acc.2]:=f64_two (blk_new wr.drew _);refine (tally_finite.calls k _ _ [acc.1,acc.2] u _ hl2 (Nat.le_refl _) HU.out).mono ?_;rintro e w3 ⟨rfl,nd3,rfl⟩;have G4:=Aside0.mk (show ((wr.drew.alloc (.cells #[.float .f64 acc.1,.float .f64 acc.2] 27)).drewN nd3).heap[g]? = some (.cells #[.complex .f64 p0.1 p0.2,.complex .f64 acc.1 acc.2,.complex .f64 0 0,.complex .f64 0 0] 63 (0,0)) from blk_drewN (blk_alloc (blk_drew G3.out) _) nd3);have R4:=Aside0.mk (show ((wr.drew.alloc (.cells #[.float .f64 acc.1,.float .f64 acc.2] 27)).drewN nd3).heap[w.heap.size]? = some (.cells #[.complex .f64 0 0,.complex .f64 0 0,.complex .f64 0 0,.complex .f64 0 0] 63 (0,0)) from blk_drewN (blk_alloc (blk_drew R3.out) _) nd3);have B4:=Aside0.mk (show Below w.heap.size w ((wr.drew.alloc (.cells #[.float .f64 acc.1,.float .f64 acc.2] 27)).drewN nd3) from pw_below_drewN (below_alloc (below_drew1 B3.out) _) nd3);clear g0 g1 g2 g3 fg0 fg1 fg2 fg3 hl2 G3 R3 B3
     obtain ⟨W4,hW4⟩ : ∃ W4,W4 = ((wr.drew.alloc (.cells #[.float .f64 acc.1,.float .f64 acc.2] 27)).drewN nd3):=⟨_,rfl⟩
     rw [← hW4] at G4 R4 B4 ⊢
     clear hW4;obtain ⟨r0,r1,r2,r3,fr0,fr1,fr2,fr3⟩:=cf4_ R4;have h5:=H2.out;clear H2
     cases u with
     | true =>
      rw [if_pos rfl] at h5
      have H5:=Aside0.mk h5;clear h5;go_wp2
      exact ⟨⟨2,[p0,acc],rfl,by omega,by first|rfl|go_num,H5.out,G4.out,R4.out,B4.out⟩,by simp [intOf]⟩
     | false =>
      rw [if_neg (by decide)] at h5
      simp only [Option.some.injEq,Prod.mk.injEq] at h5
      obtain ⟨rfl,rfl⟩:=h5;go_wp2
      refine bodyPost_ret (results_ct rfl _ _ w.heap.size 63 #[.complex .f64 0 0,.complex .f64 0 0,.complex .f64 0 0,.complex .f64 0 0] (0,0) _ rfl (by
       refine blk_put (cs:=#[.complex .f64 0 0,.complex .f64 0 0,.complex .f64 0 0,.complex .f64 0 0]) ?_ 3 _ rfl;refine blk_put (cs:=#[.complex .f64 0 0,.complex .f64 0 0,.complex .f64 0 0,.complex .f64 0 0]) ?_ 2 _ rfl;refine blk_put (cs:=#[.complex .f64 0 0,.complex .f64 0 0,.complex .f64 0 0,.complex .f64 0 0]) ?_ 1 _ rfl;refine blk_put (cs:=#[.complex .f64 0 0,.complex .f64 0 0,.complex .f64 0 0,.complex .f64 0 0]) ?_ 0 _ rfl
       exact R4.out) Try.underlying63 rfl (by kernel_rfl)) rfl ?_
      exact ⟨(0,0),(0,0),(0,0),(0,0),rfl,rfl,below_set (below_set (below_set (below_set (B4.out) (Nat.le_refl _)) (Nat.le_refl _)) (Nat.le_refl _)) (Nat.le_refl _)⟩
   ·
    obtain rfl : n = 2:=hP.symm;have hi':=hi.trans (show Value.int .i64 ((2 : Nat) : Int) = .int .i64 2 from rfl);clear hi hP hn;subst hi';have h2 : tonesGo k l (1 + 1) [p0,p1] = some (ps,r):=GO.out;clear GO
    rw [tonesGo] at h2
    obtain ⟨p,hp,h2⟩:=Option.bind_eq_some_iff.mp h2;obtain ⟨u,hu,h2⟩:=Option.bind_eq_some_iff.mp h2;have HP:=Aside0.mk (show toneSum 2 l 0 (0,0) = some p from hp);have HU:=Aside0.mk hu;have H2:=Aside0.mk h2;clear hp hu h2
    go_wp2_with fail
    go_loopw [17] (fun i wx=>∃ (j : Nat) (acc : Nat × Nat),j ≤ l.length ∧ i = .int .i64 j ∧ toneSum 2 (l.drop j) j acc = some p ∧ wx.heap[g]? = some (.cells #[.complex .f64 p0.1 p0.2,.complex .f64 p1.1 p1.2,.complex .f64 acc.1 acc.2,.complex .f64 0 0] 63 (0,0)) ∧ wx.heap[w.heap.size]? = some (.cells #[.complex .f64 0 0,.complex .f64 0 0,.complex .f64 0 0,.complex .f64 0 0] 63 (0,0)) ∧ Below w.heap.size w wx) (fun i _=>l.length - (intOf i).toNat)
    case atStart=>exact ⟨0,(0,0),Nat.zero_le _,by go_num,HP.out,G.out,R.out,B.out⟩
    case round =>
     obtain ⟨j,acc,hj,rfl,ha,hg,hr,hb⟩:=hrel;have HA:=Aside0.mk ha;have G3:=Aside0.mk hg;have R3:=Aside0.mk hr;have B3:=Aside0.mk hb;clear ha hg hr G R B HP
     by_cases hlt : j < l.length
     ·have hd : l.drop j = l[j] :: l.drop (j + 1):=List.drop_eq_getElem_cons hlt;have h3:=HA.out
      rw [hd,toneSum] at h3
      obtain ⟨m,hm⟩ : ∃ m,m = ((2 : Nat) : Int) * ((j : Int) % 4) % 4:=⟨_,rfl⟩
      rw [← hm] at h3
      have HM:=Aside0.mk hm;clear hm
      have f1 : fok .add acc.1 (turnV l[j] m).1 = true:=Classical.byContradiction fun g_=>by rw [if_neg g_] at h3;cases h3
      rw [if_pos f1] at h3
      have f2 : fok .add acc.2 (turnV l[j] m).2 = true:=Classical.byContradiction fun g_=>by rw [if_neg g_] at h3;cases h3
      rw [if_pos f2] at h3
      have H3:=Aside0.mk h3;clear h3 hd HA;obtain ⟨ad,rfl,x0⟩:=Kd.at_f64 (Kd.C_below HR.out hb) (j : Int) (by omega) (by omega)
      have ea : rdOf (0 : Nat) l (j : Int) = l[j]:=by unfold rdOf;simp [hlt]
      rw [ea,Int.toNat_natCast] at x0
      clear hb ea;obtain ⟨g0,g1,g2,g3,fg0,fg1,fg2,fg3⟩:=cf4_ G3
      go_upto_region 10 with fail
      have hwr : IntKind.i64.wrap (2 * ((j : Int) % 4)) = (2 * ((j : Int) % 4)):=IntWalk.i64_in _ (by omega);have htm : Int.tmod (j : Int) 4 = (j : Int) % 4:=Int.tmod_eq_emod_of_nonneg (by omega)
      go_still_tail 11,(by kernel_rfl)
      still_call (turned_at l[j] _ m _ (by omega) (by omega) (by have:=HM.out;omega))
      repeat still_step
      refine wpStill_nil ?_
      change wpList _ _ _ _ _ wr.drew
      go_wp2
      exact ⟨⟨j + 1,(fop .add acc.1 (turnV l[j] m).1,fop .add acc.2 (turnV l[j] m).2),by omega,by go_num,H3.out,blk_drew (blk_put G3.out 2 _ rfl),blk_drew (blk_far R3.out (p:=⟨g,2,none⟩) NG.out _),below_drew1 (below_set B3.out GB.out)⟩,by simp [intOf];omega⟩
     have hje : l.length ≤ j:=by omega
     have h4:=HA.out
     rw [List.drop_of_length_le hje,toneSum] at h4
     obtain rfl:=Option.some.inj h4;clear h4 HA hb hje;obtain ⟨g0,g1,g2,g3,fg0,fg1,fg2,fg3⟩:=cf4_ G3
     go_upto_region 12 with fail
     go_still_tail 8,(by kernel_rfl)
     change wpList _ _ _ _ _ wr.drew
     go_wp2_with fail
     have hl2 : Kd.C Kd.f64 (wr.drew.alloc (.cells #[.float .f64 acc.1,.float .f64 acc.2] 27)) (some ⟨wr.heap.size,0,none⟩) [acc.1,acc.2].length [acc.1,acc.2]:=f64_two (blk_new wr.drew _);refine (tally_finite.calls k _ _ [acc.1,acc.2] u _ hl2 (Nat.le_refl _) HU.out).mono ?_;rintro e w3 ⟨rfl,nd3,rfl⟩;have G4:=Aside0.mk (show ((wr.drew.alloc (.cells #[.float .f64 acc.1,.float .f64 acc.2] 27)).drewN nd3).heap[g]? = some (.cells #[.complex .f64 p0.1 p0.2,.complex .f64 p1.1 p1.2,.complex .f64 acc.1 acc.2,.complex .f64 0 0] 63 (0,0)) from blk_drewN (blk_alloc (blk_drew G3.out) _) nd3);have R4:=Aside0.mk (show ((wr.drew.alloc (.cells #[.float .f64 acc.1,.float .f64 acc.2] 27)).drewN nd3).heap[w.heap.size]? = some (.cells #[.complex .f64 0 0,.complex .f64 0 0,.complex .f64 0 0,.complex .f64 0 0] 63 (0,0)) from blk_drewN (blk_alloc (blk_drew R3.out) _) nd3);have B4:=Aside0.mk (show Below w.heap.size w ((wr.drew.alloc (.cells #[.float .f64 acc.1,.float .f64 acc.2] 27)).drewN nd3) from pw_below_drewN (below_alloc (below_drew1 B3.out) _) nd3);clear g0 g1 g2 g3 fg0 fg1 fg2 fg3 hl2 G3 R3 B3
     obtain ⟨W4,hW4⟩ : ∃ W4,W4 = ((wr.drew.alloc (.cells #[.float .f64 acc.1,.float .f64 acc.2] 27)).drewN nd3):=⟨_,rfl⟩
     rw [← hW4] at G4 R4 B4 ⊢
     clear hW4;obtain ⟨r0,r1,r2,r3,fr0,fr1,fr2,fr3⟩:=cf4_ R4;have h5:=H2.out;clear H2
     cases u with
     | true =>
      rw [if_pos rfl] at h5
      have H5:=Aside0.mk h5;clear h5;go_wp2
      exact ⟨⟨3,[p0,p1,acc],rfl,by omega,by first|rfl|go_num,H5.out,G4.out,R4.out,B4.out⟩,by simp [intOf]⟩
     | false =>
      rw [if_neg (by decide)] at h5
      simp only [Option.some.injEq,Prod.mk.injEq] at h5
      obtain ⟨rfl,rfl⟩:=h5;go_wp2
      refine bodyPost_ret (results_ct rfl _ _ w.heap.size 63 #[.complex .f64 0 0,.complex .f64 0 0,.complex .f64 0 0,.complex .f64 0 0] (0,0) _ rfl (by
       refine blk_put (cs:=#[.complex .f64 0 0,.complex .f64 0 0,.complex .f64 0 0,.complex .f64 0 0]) ?_ 3 _ rfl;refine blk_put (cs:=#[.complex .f64 0 0,.complex .f64 0 0,.complex .f64 0 0,.complex .f64 0 0]) ?_ 2 _ rfl;refine blk_put (cs:=#[.complex .f64 0 0,.complex .f64 0 0,.complex .f64 0 0,.complex .f64 0 0]) ?_ 1 _ rfl;refine blk_put (cs:=#[.complex .f64 0 0,.complex .f64 0 0,.complex .f64 0 0,.complex .f64 0 0]) ?_ 0 _ rfl
       exact R4.out) Try.underlying63 rfl (by kernel_rfl)) rfl ?_
      exact ⟨(0,0),(0,0),(0,0),(0,0),rfl,rfl,below_set (below_set (below_set (below_set (B4.out) (Nat.le_refl _)) (Nat.le_refl _)) (Nat.le_refl _)) (Nat.le_refl _)⟩
   ·
    obtain rfl : n = 3:=hP.symm;have hi':=hi.trans (show Value.int .i64 ((3 : Nat) : Int) = .int .i64 3 from rfl);clear hi hP hn;subst hi';have h2 : tonesGo k l (0 + 1) [p0,p1,p2] = some (ps,r):=GO.out;clear GO
    rw [tonesGo] at h2
    obtain ⟨p,hp,h2⟩:=Option.bind_eq_some_iff.mp h2;obtain ⟨u,hu,h2⟩:=Option.bind_eq_some_iff.mp h2;have HP:=Aside0.mk (show toneSum 3 l 0 (0,0) = some p from hp);have HU:=Aside0.mk hu;have H2:=Aside0.mk h2;clear hp hu h2
    go_wp2_with fail
    go_loopw [17] (fun i wx=>∃ (j : Nat) (acc : Nat × Nat),j ≤ l.length ∧ i = .int .i64 j ∧ toneSum 3 (l.drop j) j acc = some p ∧ wx.heap[g]? = some (.cells #[.complex .f64 p0.1 p0.2,.complex .f64 p1.1 p1.2,.complex .f64 p2.1 p2.2,.complex .f64 acc.1 acc.2] 63 (0,0)) ∧ wx.heap[w.heap.size]? = some (.cells #[.complex .f64 0 0,.complex .f64 0 0,.complex .f64 0 0,.complex .f64 0 0] 63 (0,0)) ∧ Below w.heap.size w wx) (fun i _=>l.length - (intOf i).toNat)
    case atStart=>exact ⟨0,(0,0),Nat.zero_le _,by go_num,HP.out,G.out,R.out,B.out⟩
    case round =>
     obtain ⟨j,acc,hj,rfl,ha,hg,hr,hb⟩:=hrel;have HA:=Aside0.mk ha;have G3:=Aside0.mk hg;have R3:=Aside0.mk hr;have B3:=Aside0.mk hb;clear ha hg hr G R B HP
     by_cases hlt : j < l.length
     ·have hd : l.drop j = l[j] :: l.drop (j + 1):=List.drop_eq_getElem_cons hlt;have h3:=HA.out
      rw [hd,toneSum] at h3
      obtain ⟨m,hm⟩ : ∃ m,m = ((3 : Nat) : Int) * ((j : Int) % 4) % 4:=⟨_,rfl⟩
      rw [← hm] at h3
      have HM:=Aside0.mk hm;clear hm
      have f1 : fok .add acc.1 (turnV l[j] m).1 = true:=Classical.byContradiction fun g_=>by rw [if_neg g_] at h3;cases h3
      rw [if_pos f1] at h3
      have f2 : fok .add acc.2 (turnV l[j] m).2 = true:=Classical.byContradiction fun g_=>by rw [if_neg g_] at h3;cases h3
      rw [if_pos f2] at h3
      have H3:=Aside0.mk h3;clear h3 hd HA;obtain ⟨ad,rfl,x0⟩:=Kd.at_f64 (Kd.C_below HR.out hb) (j : Int) (by omega) (by omega)
      have ea : rdOf (0 : Nat) l (j : Int) = l[j]:=by unfold rdOf;simp [hlt]
      rw [ea,Int.toNat_natCast] at x0
      clear hb ea;obtain ⟨g0,g1,g2,g3,fg0,fg1,fg2,fg3⟩:=cf4_ G3
      go_upto_region 10 with fail
      have hwr : IntKind.i64.wrap (3 * ((j : Int) % 4)) = (3 * ((j : Int) % 4)):=IntWalk.i64_in _ (by omega);have htm : Int.tmod (j : Int) 4 = (j : Int) % 4:=Int.tmod_eq_emod_of_nonneg (by omega)
      go_still_tail 11,(by kernel_rfl)
      still_call (turned_at l[j] _ m _ (by omega) (by omega) (by have:=HM.out;omega))
      repeat still_step
      refine wpStill_nil ?_
      change wpList _ _ _ _ _ wr.drew
      go_wp2
      exact ⟨⟨j + 1,(fop .add acc.1 (turnV l[j] m).1,fop .add acc.2 (turnV l[j] m).2),by omega,by go_num,H3.out,blk_drew (blk_put G3.out 3 _ rfl),blk_drew (blk_far R3.out (p:=⟨g,3,none⟩) NG.out _),below_drew1 (below_set B3.out GB.out)⟩,by simp [intOf];omega⟩
     have hje : l.length ≤ j:=by omega
     have h4:=HA.out
     rw [List.drop_of_length_le hje,toneSum] at h4
     obtain rfl:=Option.some.inj h4;clear h4 HA hb hje;obtain ⟨g0,g1,g2,g3,fg0,fg1,fg2,fg3⟩:=cf4_ G3
     go_upto_region 12 with fail
     go_still_tail 8,(by kernel_rfl)
     change wpList _ _ _ _ _ wr.drew
     go_wp2_with fail
     have hl2 : Kd.C Kd.f64 (wr.drew.alloc (.cells #[.float .f64 acc.1,.float .f64 acc.2] 27)) (some ⟨wr.heap.size,0,none⟩) [acc.1,acc.2].length [acc.1,acc.2]:=f64_two (blk_new wr.drew _);refine (tally_finite.calls k _ _ [acc.1,acc.2] u _ hl2 (Nat.le_refl _) HU.out).mono ?_;rintro e w3 ⟨rfl,nd3,rfl⟩;have G4:=Aside0.mk (show ((wr.drew.alloc (.cells #[.float .f64 acc.1,.float .f64 acc.2] 27)).drewN nd3).heap[g]? = some (.cells #[.complex .f64 p0.1 p0.2,.complex .f64 p1.1 p1.2,.complex .f64 p2.1 p2.2,.complex .f64 acc.1 acc.2] 63 (0,0)) from blk_drewN (blk_alloc (blk_drew G3.out) _) nd3);have R4:=Aside0.mk (show ((wr.drew.alloc (.cells #[.float .f64 acc.1,.float .f64 acc.2] 27)).drewN nd3).heap[w.heap.size]? = some (.cells #[.complex .f64 0 0,.complex .f64 0 0,.complex .f64 0 0,.complex .f64 0 0] 63 (0,0)) from blk_drewN (blk_alloc (blk_drew R3.out) _) nd3);have B4:=Aside0.mk (show Below w.heap.size w ((wr.drew.alloc (.cells #[.float .f64 acc.1,.float .f64 acc.2] 27)).drewN nd3) from pw_below_drewN (below_alloc (below_drew1 B3.out) _) nd3);clear g0 g1 g2 g3 fg0 fg1 fg2 fg3 hl2 G3 R3 B3
     obtain ⟨W4,hW4⟩ : ∃ W4,W4 = ((wr.drew.alloc (.cells #[.float .f64 acc.1,.float .f64 acc.2] 27)).drewN nd3):=⟨_,rfl⟩
     rw [← hW4] at G4 R4 B4 ⊢
     clear hW4;obtain ⟨r0,r1,r2,r3,fr0,fr1,fr2,fr3⟩:=cf4_ R4;have h5:=H2.out;clear H2
     cases u with
     | true =>
      rw [if_pos rfl] at h5
      have H5:=Aside0.mk h5;clear h5;go_wp2
      exact ⟨⟨4,[p0,p1,p2,acc],rfl,by omega,by first|rfl|go_num,H5.out,G4.out,R4.out,B4.out⟩,by simp [intOf]⟩
     | false =>
      rw [if_neg (by decide)] at h5
      simp only [Option.some.injEq,Prod.mk.injEq] at h5
      obtain ⟨rfl,rfl⟩:=h5;go_wp2
      refine bodyPost_ret (results_ct rfl _ _ w.heap.size 63 #[.complex .f64 0 0,.complex .f64 0 0,.complex .f64 0 0,.complex .f64 0 0] (0,0) _ rfl (by
       refine blk_put (cs:=#[.complex .f64 0 0,.complex .f64 0 0,.complex .f64 0 0,.complex .f64 0 0]) ?_ 3 _ rfl;refine blk_put (cs:=#[.complex .f64 0 0,.complex .f64 0 0,.complex .f64 0 0,.complex .f64 0 0]) ?_ 2 _ rfl;refine blk_put (cs:=#[.complex .f64 0 0,.complex .f64 0 0,.complex .f64 0 0,.complex .f64 0 0]) ?_ 1 _ rfl;refine blk_put (cs:=#[.complex .f64 0 0,.complex .f64 0 0,.complex .f64 0 0,.complex .f64 0 0]) ?_ 0 _ rfl
       exact R4.out) Try.underlying63 rfl (by kernel_rfl)) rfl ?_
      exact ⟨(0,0),(0,0),(0,0),(0,0),rfl,rfl,below_set (below_set (below_set (below_set (B4.out) (Nat.le_refl _)) (Nat.le_refl _)) (Nat.le_refl _)) (Nat.le_refl _)⟩
   ·obtain rfl : n = 4:=hP.symm;have hi':=hi.trans (show Value.int .i64 ((4 : Nat) : Int) = .int .i64 4 from rfl);clear hi hP hn;subst hi';have h2 : some ([p0,p1,p2,p3],(0 : Int)) = some (ps,r):=GO.out;clear GO
    simp only [Option.some.injEq,Prod.mk.injEq] at h2
    obtain ⟨rfl,rfl⟩:=h2;have G5:=Aside0.mk (show wr.heap[g]? = some (.cells #[.complex .f64 p0.1 p0.2,.complex .f64 p1.1 p1.2,.complex .f64 p2.1 p2.2,.complex .f64 p3.1 p3.2] 63 (0,0)) from G.out);obtain ⟨g0,g1,g2,g3,fg0,fg1,fg2,fg3⟩:=cf4_ G5;obtain ⟨r0,r1,r2,r3,fr0,fr1,fr2,fr3⟩:=cf4_ R;go_wp2
    refine bodyPost_ret (results_ct rfl _ _ w.heap.size 63 #[.complex .f64 p0.1 p0.2,.complex .f64 p1.1 p1.2,.complex .f64 p2.1 p2.2,.complex .f64 p3.1 p3.2] (0,0) _ rfl (by
     refine blk_put (cs:=#[.complex .f64 p0.1 p0.2,.complex .f64 p1.1 p1.2,.complex .f64 p2.1 p2.2,.complex .f64 0 0]) ?_ 3 _ rfl;refine blk_put (cs:=#[.complex .f64 p0.1 p0.2,.complex .f64 p1.1 p1.2,.complex .f64 0 0,.complex .f64 0 0]) ?_ 2 _ rfl;refine blk_put (cs:=#[.complex .f64 p0.1 p0.2,.complex .f64 0 0,.complex .f64 0 0,.complex .f64 0 0]) ?_ 1 _ rfl;refine blk_put (cs:=#[.complex .f64 0 0,.complex .f64 0 0,.complex .f64 0 0,.complex .f64 0 0]) ?_ 0 _ rfl
     exact R.out) Try.underlying63 rfl (by kernel_rfl)) rfl ?_
    exact ⟨p0,p1,p2,p3,rfl,rfl,below_set (below_set (below_set (below_set (B.out) (Nat.le_refl _)) (Nat.le_refl _)) (Nat.le_refl _)) (Nat.le_refl _)⟩
   simp at hP;omega
 have c1b:=Bool.eq_false_iff.mpr c1;subst c1b
 rw [if_neg (by decide)] at h
 simp only [Option.some.injEq,Prod.mk.injEq] at h
 obtain ⟨rfl,rfl⟩:=h;go_enter Try.func34,Try.ntmps34
 go_wp2_with fail
 refine (tally_finite.calls k A0 c0 l false _ (Kd.C_alloc HR.out _) hc0 HT.out).mono ?_;rintro e w1 ⟨rfl,nd,rfl⟩;have R1:=Aside0.mk (show ((w.alloc (.cells #[.complex .f64 0 0,.complex .f64 0 0,.complex .f64 0 0,.complex .f64 0 0] 63)).drewN nd).heap[w.heap.size]? = some (.cells #[.complex .f64 0 0,.complex .f64 0 0,.complex .f64 0 0,.complex .f64 0 0] 63 (0,0)) from blk_drewN (blk_new w _) nd);have B1:=Aside0.mk (show Below w.heap.size w ((w.alloc (.cells #[.complex .f64 0 0,.complex .f64 0 0,.complex .f64 0 0,.complex .f64 0 0] 63)).drewN nd) from pw_below_drewN ((Below.refl w.heap.size w).alloc (Nat.le_refl _) _) nd)
 obtain ⟨W1,hW1⟩ : ∃ W1,W1 = (w.alloc (.cells #[.complex .f64 0 0,.complex .f64 0 0,.complex .f64 0 0,.complex .f64 0 0] 63)).drewN nd:=⟨_,rfl⟩
 rw [← hW1] at R1 B1 ⊢
 clear hW1;have hz1 : w.heap.size < W1.heap.size:=blk_lt R1.out;obtain ⟨r0,r1,r2,r3,fr0,fr1,fr2,fr3⟩:=cf4_ R1;go_wp2
 refine bodyPost_ret (results_ct rfl _ _ w.heap.size 63 #[.complex .f64 0 0,.complex .f64 0 0,.complex .f64 0 0,.complex .f64 0 0] (0,0) _ rfl (by
  refine blk_put (cs:=#[.complex .f64 0 0,.complex .f64 0 0,.complex .f64 0 0,.complex .f64 0 0]) ?_ 3 _ rfl;refine blk_put (cs:=#[.complex .f64 0 0,.complex .f64 0 0,.complex .f64 0 0,.complex .f64 0 0]) ?_ 2 _ rfl;refine blk_put (cs:=#[.complex .f64 0 0,.complex .f64 0 0,.complex .f64 0 0,.complex .f64 0 0]) ?_ 1 _ rfl;refine blk_put (cs:=#[.complex .f64 0 0,.complex .f64 0 0,.complex .f64 0 0,.complex .f64 0 0]) ?_ 0 _ rfl
  exact R1.out) Try.underlying63 rfl (by kernel_rfl)) rfl ?_
 exact ⟨(0,0),(0,0),(0,0),(0,0),rfl,rfl,below_set (below_set (below_set (below_set (B1.out) (Nat.le_refl _)) (Nat.le_refl _)) (Nat.le_refl _)) (Nat.le_refl _)⟩
end Go.Proofs.Ytlgamjgdkljfiaa.PTallyBegins
