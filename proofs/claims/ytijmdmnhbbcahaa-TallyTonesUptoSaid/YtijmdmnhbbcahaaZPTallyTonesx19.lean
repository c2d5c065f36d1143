-- Written by shrink.py, a program of this session: what the law needs of the print and its words. Lean checks it.
import Derived.Test.YtijmdmnhbbcahaaZPTallyTonesx0
import Derived.Test.YtijmdmnhbbcahaaZPTallyTonesx17
import Derived.Test.YtijmdmnhbbcahaaZPTallyTonesx18
import Derived.IntWalk
import Derived.WalkMore
import Derived.Deep.QuietTactic
import Derived.BigQuiet
import Derived.StillTailTactics
namespace Go.Proofs.Ytijmdmnhbbcahaa.PTallyTones
open Go.RowKit Go.Proofs.YtijmdmnhbbcahaaW.PrintWords Go.Proofs.YtijmdmnhbbcahaaW.PrintLast Go.Proofs.YtijmdmnhbbcahaaW.PrintMore
attribute [local go_sem] run_fadd run_fsub run_fmul run_fquo unary_fneg run_store_f64 run_store_c128 run_cadd
attribute [local go_sem] max2_int min2_int max_two min_two max_three min_three max_four min_four
set_option linter.unusedVariables false
set_option linter.unusedSimpArgs false
def rTone (n : Nat) : List Nat → Nat → Nat × Nat → Option (Nat × Nat)
 | [],_,a=>some a
 | x :: l,j,a=>if ((n : Int) * ((j : Int) % 4)) % 4 = 0 then (if fok .add a.1 x = true then rTone n l (j + 1) (fop .add a.1 x,a.2) else none) else if ((n : Int) * ((j : Int) % 4)) % 4 = 1 then (if fok .sub a.2 x = true then rTone n l (j + 1) (a.1,fop .sub a.2 x) else none) else if ((n : Int) * ((j : Int) % 4)) % 4 = 2 then (if fok .sub a.1 x = true then rTone n l (j + 1) (fop .sub a.1 x,a.2) else none) else (if fok .add a.2 x = true then rTone n l (j + 1) (a.1,fop .add a.2 x) else none)
def rTonesGo (l : List Nat) : Nat → List (Nat × Nat) → Option (List (Nat × Nat) × Int)
 | 0,P=>some (P,0)
 | d + 1,P=>(rTone P.length l 0 (0,0)).bind fun p=>(quarryref13_Finite.f p.1).bind fun t=>if t = true then ((quarryref13_Finite.f p.2).bind fun u=>if u = true then rTonesGo l d (P ++ [p]) else some ([(0,0),(0,0),(0,0),(0,0)],121)) else some ([(0,0),(0,0),(0,0),(0,0)],121)
def quarryref31_Tones.f (k : Nat) (l : List Nat) : Option (List (Nat × Nat) × Int):=(quarryref31_All.f k l).bind fun t=>if t = true then rTonesGo l 4 [] else some ([(0,0),(0,0),(0,0),(0,0)],130)
def padR (P : List (Nat × Nat)) : Array Value:=#[.float .f64 (P.getD 0 (0,0)).1,.float .f64 (P.getD 0 (0,0)).2,.float .f64 (P.getD 1 (0,0)).1,.float .f64 (P.getD 1 (0,0)).2,.float .f64 (P.getD 2 (0,0)).1,.float .f64 (P.getD 2 (0,0)).2,.float .f64 (P.getD 3 (0,0)).1,.float .f64 (P.getD 3 (0,0)).2]
set_option maxHeartbeats 8000000 in
set_option maxRecDepth 100000 in
theorem rtones_calls (k : Nat) (A0 : Option Addr) (c0 : Nat) (l : List Nat) (ps : List (Nat × Nat)) (r : Int) (w : World) (hr0 : Kd.C Kd.f64 w A0 l.length l) (hc0 : l.length ≤ c0) (h : quarryref31_Tones.f k l = some (ps,r)) :
  Calls Try.prog 24 #[.slice A0 l.length c0] w fun e w'=>∃ p0 p1 p2 p3 : Nat × Nat,ps = [p0,p1,p2,p3] ∧ e = .returned (.tuple #[.agg #[.float .f64 p0.1,.float .f64 p0.2,.float .f64 p1.1,.float .f64 p1.2,.float .f64 p2.1,.float .f64 p2.2,.float .f64 p3.1,.float .f64 p3.2],.int .i64 r]) ∧ Below w.heap.size w w':=by
 have HR:=Aside0.mk hr0
 have hmax:=Kd.C_max hr0
 clear hr0
 unfold quarryref31_Tones.f at h
 obtain ⟨t,ht,h⟩:=Option.bind_eq_some_iff.mp h
 have HT:=Aside0.mk ht
 clear ht
 by_cases c1 : t = true
 ·subst c1
  rw [if_pos rfl] at h
  have HG:=Aside0.mk h
  clear h
  go_enter Try.func24,Try.ntmps24
  go_upto_region 1 with fail
  have R0:=Aside0.mk (show (w.alloc (.cells #[.float .f64 0,.float .f64 0,.float .f64 0,.float .f64 0,.float .f64 0,.float .f64 0,.float .f64 0,.float .f64 0] 45)).heap[w.heap.size]? = some (.cells #[.float .f64 0,.float .f64 0,.float .f64 0,.float .f64 0,.float .f64 0,.float .f64 0,.float .f64 0,.float .f64 0] 45 (0,0)) from blk_new w _)
  have B0:=Aside0.mk (show Below w.heap.size w (w.alloc (.cells #[.float .f64 0,.float .f64 0,.float .f64 0,.float .f64 0,.float .f64 0,.float .f64 0,.float .f64 0,.float .f64 0] 45)) from (Below.refl w.heap.size w).alloc (Nat.le_refl _) _)
  have K0:=Aside0.mk (show Kd.C Kd.f64 (w.alloc (.cells #[.float .f64 0,.float .f64 0,.float .f64 0,.float .f64 0,.float .f64 0,.float .f64 0,.float .f64 0,.float .f64 0] 45)) A0 l.length l from Kd.C_alloc HR.out _)
  obtain ⟨W0,hW0⟩ : ∃ W0,W0 = w.alloc (.cells #[.float .f64 0,.float .f64 0,.float .f64 0,.float .f64 0,.float .f64 0,.float .f64 0,.float .f64 0,.float .f64 0] 45):=⟨_,rfl⟩
  rw [← hW0] at R0 B0 K0 ⊢
  clear hW0
  have hz0 : w.heap.size < W0.heap.size:=blk_lt R0.out
  go_wp2_with fail
  refine (quarryref31_All.calls k A0 c0 l true _ (Kd.C_alloc K0.out _) hc0 HT.out).mono ?_
  rintro e w1 ⟨rfl,nd,rfl⟩
  have R1:=Aside0.mk (show ((W0.alloc (.cells #[.float .f64 0,.float .f64 0,.float .f64 0,.float .f64 0,.float .f64 0,.float .f64 0,.float .f64 0,.float .f64 0] 45)).drewN nd).heap[w.heap.size]? = some (.cells #[.float .f64 0,.float .f64 0,.float .f64 0,.float .f64 0,.float .f64 0,.float .f64 0,.float .f64 0,.float .f64 0] 45 (0,0)) from blk_drewN (blk_alloc R0.out _) nd)
  have G1:=Aside0.mk (show ((W0.alloc (.cells #[.float .f64 0,.float .f64 0,.float .f64 0,.float .f64 0,.float .f64 0,.float .f64 0,.float .f64 0,.float .f64 0] 45)).drewN nd).heap[W0.heap.size]? = some (.cells #[.float .f64 0,.float .f64 0,.float .f64 0,.float .f64 0,.float .f64 0,.float .f64 0,.float .f64 0,.float .f64 0] 45 (0,0)) from blk_drewN (blk_new W0 _) nd)
  have B1:=Aside0.mk (show Below w.heap.size w ((W0.alloc (.cells #[.float .f64 0,.float .f64 0,.float .f64 0,.float .f64 0,.float .f64 0,.float .f64 0,.float .f64 0,.float .f64 0] 45)).drewN nd) from pw_below_drewN (below_alloc B0.out _) nd)
  obtain ⟨W1,hW1⟩ : ∃ W1,W1 = ((W0.alloc (.cells #[.float .f64 0,.float .f64 0,.float .f64 0,.float .f64 0,.float .f64 0,.float .f64 0,.float .f64 0,.float .f64 0] 45)).drewN nd):=⟨_,rfl⟩
  rw [← hW1] at R1 G1 B1 ⊢
  clear hW1 R0 B0 K0
  obtain ⟨g,hgg⟩ : ∃ g,g = W0.heap.size:=⟨_,rfl⟩
  rw [← hgg] at G1 hz0 ⊢
  have NG:=Aside0.mk (show w.heap.size ≠ g by omega)
  have GB:=Aside0.mk (show w.heap.size ≤ g by omega)
  clear hgg hz0
  go_wp2_with fail
  go_loopw [5] (fun i wr=>∃ (n : Nat) (P : List (Nat × Nat)),P.length = n ∧ n ≤ 4 ∧ i = .int .i64 n ∧ rTonesGo l (4 - n) P = some (ps,r) ∧ wr.heap[g]? = some (.cells (padR P) 45 (0,0)) ∧ wr.heap[w.heap.size]? = some (.cells #[.float .f64 0,.float .f64 0,.float .f64 0,.float .f64 0,.float .f64 0,.float .f64 0,.float .f64 0,.float .f64 0] 45 (0,0)) ∧ Below w.heap.size w wr) (fun i _=>4 - (intOf i).toNat)
  case atStart=>exact ⟨0,[],rfl,by omega,by go_num,HG.out,G1.out,R1.out,B1.out⟩
  case round =>
   obtain ⟨n,P,hP,hn,hi,hgo,hG,hR,hB⟩:=hrel
   have GO:=Aside0.mk hgo;have G:=Aside0.mk hG;have R:=Aside0.mk hR;have B:=Aside0.mk hB
   clear hgo hG hR hB G1 R1 B1 HG
   rcases P with _|⟨p0,_|⟨p1,_|⟨p2,_|⟨p3,_|⟨p4,P⟩⟩⟩⟩⟩
   ·
    obtain rfl : n = 0:=hP.symm
    have hi':=hi.trans (show Value.int .i64 ((0 : Nat) : Int) = .int .i64 0 from rfl)
    clear hi hP hn
    subst hi'
    have h2 : rTonesGo l (3 + 1) [] = some (ps,r):=GO.out
    clear GO
    rw [rTonesGo] at h2
    obtain ⟨p,hp,h2⟩:=Option.bind_eq_some_iff.mp h2
    obtain ⟨u,hu,h2⟩:=Option.bind_eq_some_iff.mp h2
    have HP:=Aside0.mk (show rTone 0 l 0 (0,0) = some p from hp);have HU:=Aside0.mk hu;have H2:=Aside0.mk h2
    clear hp hu h2
    have G2:=Aside0.mk (show wr.heap[g]? = some (.cells #[.float .f64 0,.float .f64 0,.float .f64 0,.float .f64 0,.float .f64 0,.float .f64 0,.float .f64 0,.float .f64 0] 45 (0,0)) from G.out)
    clear G
    go_wp2_with fail
    go_loopw [6,7,8] (fun a b i wx=>∃ (j : Nat) (acc : Nat × Nat),j ≤ l.length ∧ a = .float .f64 acc.1 ∧ b = .float .f64 acc.2 ∧ i = .int .i64 j ∧ rTone 0 (l.drop j) j acc = some p ∧ wx.heap[g]? = some (.cells #[.float .f64 0,.float .f64 0,.float .f64 0,.float .f64 0,.float .f64 0,.float .f64 0,.float .f64 0,.float .f64 0] 45 (0,0)) ∧ wx.heap[w.heap.size]? = some (.cells #[.float .f64 0,.float .f64 0,.float .f64 0,.float .f64 0,.float .f64 0,.float .f64 0,.float .f64 0,.float .f64 0] 45 (0,0)) ∧ Below w.heap.size w wx) (fun _ _ i _=>l.length - (intOf i).toNat)
    case atStart=>exact ⟨0,(0,0),Nat.zero_le _,rfl,rfl,by go_num,HP.out,G2.out,R.out,B.out⟩
    case round =>
     obtain ⟨j,acc,hj,rfl,rfl,rfl,ha,hg,hr,hb⟩:=hrel
     have HA:=Aside0.mk ha;have G3:=Aside0.mk hg;have R3:=Aside0.mk hr;have B3:=Aside0.mk hb
     clear ha hg hr G2 R B HP
     by_cases hlt : j < l.length
     ·have hd : l.drop j = l[j] :: l.drop (j + 1):=List.drop_eq_getElem_cons hlt
      have h3:=HA.out
      rw [hd,rTone] at h3
      obtain ⟨m,hm⟩ : ∃ m,m = ((0 : Nat) : Int) * ((j : Int) % 4) % 4:=⟨_,rfl⟩
      rw [← hm] at h3
      obtain ⟨ad,rfl,x0⟩:=Kd.at_f64 (Kd.C_below HR.out hb) (j : Int) (by omega) (by omega)
      have ea : rdOf (0 : Nat) l (j : Int) = l[j]:=by unfold rdOf;simp [hlt]
      rw [ea,Int.toNat_natCast] at x0
      clear hb ea hd HA
      have hwr : IntKind.i64.wrap 0 = 0:=IntWalk.i64_in _ (by omega)
      have htm : Int.tmod (j : Int) 4 = (j : Int) % 4:=Int.tmod_eq_emod_of_nonneg (by omega)
      have htn : Int.tmod 0 4 = m:=by rw [Int.tmod_eq_emod_of_nonneg (by omega)];omega
      have hdm : m = 0:=by omega
      clear hm
      rcases hdm with rfl
      ·
       have f1 : fok .add acc.1 l[j] = true:=Classical.byContradiction fun g_=>by (first|(rw [if_pos rfl,if_neg g_] at h3;cases h3)|(rw [if_neg (by decide),if_pos rfl,if_neg g_] at h3;cases h3)|(rw [if_neg (by decide),if_neg (by decide),if_pos rfl,if_neg g_] at h3;cases h3)|(rw [if_neg (by decide),if_neg (by decide),if_neg (by decide),if_neg g_] at h3;cases h3))
       have h4 : rTone 0 (l.drop (j + 1)) (j + 1) (fop .add acc.1 l[j],acc.2) = some p:=by (first|(rw [if_pos rfl,if_pos f1] at h3;exact h3)|(rw [if_neg (by decide),if_pos rfl,if_pos f1] at h3;exact h3)|(rw [if_neg (by decide),if_neg (by decide),if_pos rfl,if_pos f1] at h3;exact h3)|(rw [if_neg (by decide),if_neg (by decide),if_neg (by decide),if_pos f1] at h3;exact h3))
       have H4:=Aside0.mk h4
       clear h3 h4
       go_wp2
       exact ⟨⟨j + 1,(fop .add acc.1 l[j],acc.2),by omega,rfl,rfl,by go_num,H4.out,G3.out,R3.out,B3.out⟩,by simp [intOf];omega⟩
     ·have hje : l.length ≤ j:=by omega
      have h4:=HA.out
      rw [List.drop_of_length_le hje,rTone] at h4
      obtain rfl:=Option.some.inj h4
      clear h4 HA hb hje
      obtain ⟨g0,g1,g2,g3,g4,g5,g6,g7,fg0,fg1,fg2,fg3,fg4,fg5,fg6,fg7⟩:=cf8_ G3
      obtain ⟨r0,r1,r2,r3,r4,r5,r6,r7,fr0,fr1,fr2,fr3,fr4,fr5,fr6,fr7⟩:=cf8_ R3
      have h5:=H2.out
      clear H2
      cases u with
      | false =>
       rw [if_neg (by decide)] at h5
       simp only [Option.some.injEq,Prod.mk.injEq] at h5
       obtain ⟨rfl,rfl⟩:=h5
       go_wp2_with fail
       refine (quarryref13_Finite.calls acc.1 false _ HU.out).mono ?_
       rintro e w1 ⟨rfl,n1,rfl⟩
       go_wp2_with fail
       refine bodyPost_ret (results_ct rfl _ _ w.heap.size 45 #[.float .f64 0,.float .f64 0,.float .f64 0,.float .f64 0,.float .f64 0,.float .f64 0,.float .f64 0,.float .f64 0] (0,0) _ rfl (by
        refine blk_put (cs:=#[.float .f64 0,.float .f64 0,.float .f64 0,.float .f64 0,.float .f64 0,.float .f64 0,.float .f64 0,.float .f64 0]) ?_ 7 _ rfl
        refine blk_put (cs:=#[.float .f64 0,.float .f64 0,.float .f64 0,.float .f64 0,.float .f64 0,.float .f64 0,.float .f64 0,.float .f64 0]) ?_ 6 _ rfl
        refine blk_put (cs:=#[.float .f64 0,.float .f64 0,.float .f64 0,.float .f64 0,.float .f64 0,.float .f64 0,.float .f64 0,.float .f64 0]) ?_ 5 _ rfl
        refine blk_put (cs:=#[.float .f64 0,.float .f64 0,.float .f64 0,.float .f64 0,.float .f64 0,.float .f64 0,.float .f64 0,.float .f64 0]) ?_ 4 _ rfl
        refine blk_put (cs:=#[.float .f64 0,.float .f64 0,.float .f64 0,.float .f64 0,.float .f64 0,.float .f64 0,.float .f64 0,.float .f64 0]) ?_ 3 _ rfl
        refine blk_put (cs:=#[.float .f64 0,.float .f64 0,.float .f64 0,.float .f64 0,.float .f64 0,.float .f64 0,.float .f64 0,.float .f64 0]) ?_ 2 _ rfl
        refine blk_put (cs:=#[.float .f64 0,.float .f64 0,.float .f64 0,.float .f64 0,.float .f64 0,.float .f64 0,.float .f64 0,.float .f64 0]) ?_ 1 _ rfl
        refine blk_put (cs:=#[.float .f64 0,.float .f64 0,.float .f64 0,.float .f64 0,.float .f64 0,.float .f64 0,.float .f64 0,.float .f64 0]) ?_ 0 _ rfl
        exact (blk_drewN R3.out n1)) Try.underlying45 rfl (by kernel_rfl)) rfl ?_
       exact ⟨(0,0),(0,0),(0,0),(0,0),rfl,rfl,below_set (below_set (below_set (below_set (below_set (below_set (below_set (below_set (pw_below_drewN B3.out n1) (Nat.le_refl _)) (Nat.le_refl _)) (Nat.le_refl _)) (Nat.le_refl _)) (Nat.le_refl _)) (Nat.le_refl _)) (Nat.le_refl _)) (Nat.le_refl _)⟩
      | true =>
       rw [if_pos rfl] at h5
       obtain ⟨v,hv,h5⟩:=Option.bind_eq_some_iff.mp h5
       have HV:=Aside0.mk hv
       clear hv
       cases v with
       | false =>
        rw [if_neg (by decide)] at h5
        simp only [Option.some.injEq,Prod.mk.injEq] at h5
        obtain ⟨rfl,rfl⟩:=h5
        go_wp2_with fail
        refine (quarryref13_Finite.calls acc.1 true _ HU.out).mono ?_
        rintro e w1 ⟨rfl,n1,rfl⟩
        go_wp2_with fail
        refine (quarryref13_Finite.calls acc.2 false _ HV.out).mono ?_
        rintro e w2 ⟨rfl,n2,rfl⟩
        go_wp2_with fail
        refine bodyPost_ret (results_ct rfl _ _ w.heap.size 45 #[.float .f64 0,.float .f64 0,.float .f64 0,.float .f64 0,.float .f64 0,.float .f64 0,.float .f64 0,.float .f64 0] (0,0) _ rfl (by
         refine blk_put (cs:=#[.float .f64 0,.float .f64 0,.float .f64 0,.float .f64 0,.float .f64 0,.float .f64 0,.float .f64 0,.float .f64 0]) ?_ 7 _ rfl
         refine blk_put (cs:=#[.float .f64 0,.float .f64 0,.float .f64 0,.float .f64 0,.float .f64 0,.float .f64 0,.float .f64 0,.float .f64 0]) ?_ 6 _ rfl
         refine blk_put (cs:=#[.float .f64 0,.float .f64 0,.float .f64 0,.float .f64 0,.float .f64 0,.float .f64 0,.float .f64 0,.float .f64 0]) ?_ 5 _ rfl
         refine blk_put (cs:=#[.float .f64 0,.float .f64 0,.float .f64 0,.float .f64 0,.float .f64 0,.float .f64 0,.float .f64 0,.float .f64 0]) ?_ 4 _ rfl
         refine blk_put (cs:=#[.float .f64 0,.float .f64 0,.float .f64 0,.float .f64 0,.float .f64 0,.float .f64 0,.float .f64 0,.float .f64 0]) ?_ 3 _ rfl
         refine blk_put (cs:=#[.float .f64 0,.float .f64 0,.float .f64 0,.float .f64 0,.float .f64 0,.float .f64 0,.float .f64 0,.float .f64 0]) ?_ 2 _ rfl
         refine blk_put (cs:=#[.float .f64 0,.float .f64 0,.float .f64 0,.float .f64 0,.float .f64 0,.float .f64 0,.float .f64 0,.float .f64 0]) ?_ 1 _ rfl
         refine blk_put (cs:=#[.float .f64 0,.float .f64 0,.float .f64 0,.float .f64 0,.float .f64 0,.float .f64 0,.float .f64 0,.float .f64 0]) ?_ 0 _ rfl
         exact (blk_drewN R3.out (n1 + n2))) Try.underlying45 rfl (by kernel_rfl)) rfl ?_
        exact ⟨(0,0),(0,0),(0,0),(0,0),rfl,rfl,below_set (below_set (below_set (below_set (below_set (below_set (below_set (below_set (pw_below_drewN B3.out (n1 + n2)) (Nat.le_refl _)) (Nat.le_refl _)) (Nat.le_refl _)) (Nat.le_refl _)) (Nat.le_refl _)) (Nat.le_refl _)) (Nat.le_refl _)) (Nat.le_refl _)⟩
       | true =>
        rw [if_pos rfl] at h5
        have H5:=Aside0.mk h5
        clear h5
        go_wp2_with fail
        refine (quarryref13_Finite.calls acc.1 true _ HU.out).mono ?_
        rintro e w1 ⟨rfl,n1,rfl⟩
        go_wp2_with fail
        refine (quarryref13_Finite.calls acc.2 true _ HV.out).mono ?_
        rintro e w2 ⟨rfl,n2,rfl⟩
        go_wp2_with fail
        exact ⟨⟨1,[acc],rfl,by omega,by first|rfl|go_num,H5.out,blk_put (blk_put (blk_drewN G3.out (n1 + n2)) 0 _ rfl) 1 _ rfl,blk_far (blk_far (blk_drewN R3.out (n1 + n2)) (p:=⟨g,0,none⟩) NG.out _) (p:=⟨g,1,none⟩) NG.out _,below_set (below_set (pw_below_drewN B3.out (n1 + n2)) GB.out) GB.out⟩,by simp [intOf]⟩
   ·
    obtain rfl : n = 1:=hP.symm
    have hi':=hi.trans (show Value.int .i64 ((1 : Nat) : Int) = .int .i64 1 from rfl)
    clear hi hP hn
    subst hi'
    have h2 : rTonesGo l (2 + 1) [p0] = some (ps,r):=GO.out
    clear GO
    rw [rTonesGo] at h2
    obtain ⟨p,hp,h2⟩:=Option.bind_eq_some_iff.mp h2
    obtain ⟨u,hu,h2⟩:=Option.bind_eq_some_iff.mp h2
    have HP:=Aside0.mk (show rTone 1 l 0 (0,0) = some p from hp);have HU:=Aside0.mk hu;have H2:=Aside0.mk h2
    clear hp hu h2
    have G2:=Aside0.mk (show wr.heap[g]? = some (.cells #[.float .f64 p0.1,.float .f64 p0.2,.float .f64 0,.float .f64 0,.float .f64 0,.float .f64 0,.float .f64 0,.float .f64 0] 45 (0,0)) from G.out)
    clear G
    go_wp2_with fail
    go_loopw [6,7,8] (fun a b i wx=>∃ (j : Nat) (acc : Nat × Nat),j ≤ l.length ∧ a = .float .f64 acc.1 ∧ b = .float .f64 acc.2 ∧ i = .int .i64 j ∧ rTone 1 (l.drop j) j acc = some p ∧ wx.heap[g]? = some (.cells #[.float .f64 p0.1,.float .f64 p0.2,.float .f64 0,.float .f64 0,.float .f64 0,.float .f64 0,.float .f64 0,.float .f64 0] 45 (0,0)) ∧ wx.heap[w.heap.size]? = some (.cells #[.float .f64 0,.float .f64 0,.float .f64 0,.float .f64 0,.float .f64 0,.float .f64 0,.float .f64 0,.float .f64 0] 45 (0,0)) ∧ Below w.heap.size w wx) (fun _ _ i _=>l.length - (intOf i).toNat)
    case atStart=>exact ⟨0,(0,0),Nat.zero_le _,rfl,rfl,by go_num,HP.out,G2.out,R.out,B.out⟩
    case round =>
     obtain ⟨j,acc,hj,rfl,rfl,rfl,ha,hg,hr,hb⟩:=hrel
     have HA:=Aside0.mk ha;have G3:=Aside0.mk hg;have R3:=Aside0.mk hr;have B3:=Aside0.mk hb
     clear ha hg hr G2 R B HP
     by_cases hlt : j < l.length
     ·have hd : l.drop j = l[j] :: l.drop (j + 1):=List.drop_eq_getElem_cons hlt
      have h3:=HA.out
      rw [hd,rTone] at h3
      obtain ⟨m,hm⟩ : ∃ m,m = ((1 : Nat) : Int) * ((j : Int) % 4) % 4:=⟨_,rfl⟩
      rw [← hm] at h3
      obtain ⟨ad,rfl,x0⟩:=Kd.at_f64 (Kd.C_below HR.out hb) (j : Int) (by omega) (by omega)
      have ea : rdOf (0 : Nat) l (j : Int) = l[j]:=by unfold rdOf;simp [hlt]
      rw [ea,Int.toNat_natCast] at x0
      clear hb ea hd HA
      have hwr : IntKind.i64.wrap ((j : Int) % 4) = ((j : Int) % 4):=IntWalk.i64_in _ (by omega)
      have htm : Int.tmod (j : Int) 4 = (j : Int) % 4:=Int.tmod_eq_emod_of_nonneg (by omega)
      have htn : Int.tmod ((j : Int) % 4) 4 = m:=by rw [Int.tmod_eq_emod_of_nonneg (by omega)];omega
      have hdm : m = 0 ∨ m = 1 ∨ m = 2 ∨ m = 3:=by omega
      clear hm
      rcases hdm with rfl|rfl|rfl|rfl
      ·
       have f1 : fok .add acc.1 l[j] = true:=Classical.byContradiction fun g_=>by (first|(rw [if_pos rfl,if_neg g_] at h3;cases h3)|(rw [if_neg (by decide),if_pos rfl,if_neg g_] at h3;cases h3)|(rw [if_neg (by decide),if_neg (by decide),if_pos rfl,if_neg g_] at h3;cases h3)|(rw [if_neg (by decide),if_neg (by decide),if_neg (by decide),if_neg g_] at h3;cases h3))
       have h4 : rTone 1 (l.drop (j + 1)) (j + 1) (fop .add acc.1 l[j],acc.2) = some p:=by (first|(rw [if_pos rfl,if_pos f1] at h3;exact h3)|(rw [if_neg (by decide),if_pos rfl,if_pos f1] at h3;exact h3)|(rw [if_neg (by decide),if_neg (by decide),if_pos rfl,if_pos f1] at h3;exact h3)|(rw [if_neg (by decide),if_neg (by decide),if_neg (by decide),if_pos f1] at h3;exact h3))
       have H4:=Aside0.mk h4
       clear h3 h4
       go_wp2
       exact ⟨⟨j + 1,(fop .add acc.1 l[j],acc.2),by omega,rfl,rfl,by go_num,H4.out,G3.out,R3.out,B3.out⟩,by simp [intOf];omega⟩
      ·
       have f1 : fok .sub acc.2 l[j] = true:=Classical.byContradiction fun g_=>by (first|(rw [if_pos rfl,if_neg g_] at h3;cases h3)|(rw [if_neg (by decide),if_pos rfl,if_neg g_] at h3;cases h3)|(rw [if_neg (by decide),if_neg (by decide),if_pos rfl,if_neg g_] at h3;cases h3)|(rw [if_neg (by decide),if_neg (by decide),if_neg (by decide),if_neg g_] at h3;cases h3))
       have h4 : rTone 1 (l.drop (j + 1)) (j + 1) (acc.1,fop .sub acc.2 l[j]) = some p:=by (first|(rw [if_pos rfl,if_pos f1] at h3;exact h3)|(rw [if_neg (by decide),if_pos rfl,if_pos f1] at h3;exact h3)|(rw [if_neg (by decide),if_neg (by decide),if_pos rfl,if_pos f1] at h3;exact h3)|(rw [if_neg (by decide),if_neg (by decide),if_neg (by decide),if_pos f1] at h3;exact h3))
       have H4:=Aside0.mk h4
       clear h3 h4
       go_wp2
       exact ⟨⟨j + 1,(acc.1,fop .sub acc.2 l[j]),by omega,rfl,rfl,by go_num,H4.out,G3.out,R3.out,B3.out⟩,by simp [intOf];omega⟩
      ·
       have f1 : fok .sub acc.1 l[j] = true:=Classical.byContradiction fun g_=>by (first|(rw [if_pos rfl,if_neg g_] at h3;cases h3)|(rw [if_neg (by decide),if_pos rfl,if_neg g_] at h3;cases h3)|(rw [if_neg (by decide),if_neg (by decide),if_pos rfl,if_neg g_] at h3;cases h3)|(rw [if_neg (by decide),if_neg (by decide),if_neg (by decide),if_neg g_] at h3;cases h3))
       have h4 : rTone 1 (l.drop (j + 1)) (j + 1) (fop .sub acc.1 l[j],acc.2) = some p:=by (first|(rw [if_pos rfl,if_pos f1] at h3;exact h3)|(rw [if_neg (by decide),if_pos rfl,if_pos f1] at h3;exact h3)|(rw [if_neg (by decide),if_neg (by decide),if_pos rfl,if_pos f1] at h3;exact h3)|(rw [if_neg (by decide),if_neg (by decide),if_neg (by decide),if_pos f1] at h3;exact h3))
       have H4:=Aside0.mk h4
       clear h3 h4
       go_wp2
       exact ⟨⟨j + 1,(fop .sub acc.1 l[j],acc.2),by omega,rfl,rfl,by go_num,H4.out,G3.out,R3.out,B3.out⟩,by simp [intOf];omega⟩
      ·
       have f1 : fok .add acc.2 l[j] = true:=Classical.byContradiction fun g_=>by (first|(rw [if_pos rfl,if_neg g_] at h3;cases h3)|(rw [if_neg (by decide),if_pos rfl,if_neg g_] at h3;cases h3)|(rw [if_neg (by decide),if_neg (by decide),if_pos rfl,if_neg g_] at h3;cases h3)|(rw [if_neg (by decide),if_neg (by decide),if_neg (by decide),if_neg g_] at h3;cases h3))
       have h4 : rTone 1 (l.drop (j + 1)) (j + 1) (acc.1,fop .add acc.2 l[j]) = some p:=by (first|(rw [if_pos rfl,if_pos f1] at h3;exact h3)|(rw [if_neg (by decide),if_pos rfl,if_pos f1] at h3;exact h3)|(rw [if_neg (by decide),if_neg (by decide),if_pos rfl,if_pos f1] at h3;exact h3)|(rw [if_neg (by decide),if_neg (by decide),if_neg (by decide),if_pos f1] at h3;exact h3))
       have H4:=Aside0.mk h4
       clear h3 h4
       go_wp2
       exact ⟨⟨j + 1,(acc.1,fop .add acc.2 l[j]),by omega,rfl,rfl,by go_num,H4.out,G3.out,R3.out,B3.out⟩,by simp [intOf];omega⟩
     ·have hje : l.length ≤ j:=by omega
      have h4:=HA.out
      rw [List.drop_of_length_le hje,rTone] at h4
      obtain rfl:=Option.some.inj h4
      clear h4 HA hb hje
      obtain ⟨g0,g1,g2,g3,g4,g5,g6,g7,fg0,fg1,fg2,fg3,fg4,fg5,fg6,fg7⟩:=cf8_ G3
      obtain ⟨r0,r1,r2,r3,r4,r5,r6,r7,fr0,fr1,fr2,fr3,fr4,fr5,fr6,fr7⟩:=cf8_ R3
      have h5:=H2.out
      clear H2
      cases u with
      | false =>
       rw [if_neg (by decide)] at h5
       simp only [Option.some.injEq,Prod.mk.injEq] at h5
       obtain ⟨rfl,rfl⟩:=h5
       go_wp2_with fail
       refine (quarryref13_Finite.calls acc.1 false _ HU.out).mono ?_
       rintro e w1 ⟨rfl,n1,rfl⟩
       go_wp2_with fail
       refine bodyPost_ret (results_ct rfl _ _ w.heap.size 45 #[.float .f64 0,.float .f64 0,.float .f64 0,.float .f64 0,.float .f64 0,.float .f64 0,.float .f64 0,.float .f64 0] (0,0) _ rfl (by
        refine blk_put (cs:=#[.float .f64 0,.float .f64 0,.float .f64 0,.float .f64 0,.float .f64 0,.float .f64 0,.float .f64 0,.float .f64 0]) ?_ 7 _ rfl
        refine blk_put (cs:=#[.float .f64 0,.float .f64 0,.float .f64 0,.float .f64 0,.float .f64 0,.float .f64 0,.float .f64 0,.float .f64 0]) ?_ 6 _ rfl
        refine blk_put (cs:=#[.float .f64 0,.float .f64 0,.float .f64 0,.float .f64 0,.float .f64 0,.float .f64 0,.float .f64 0,.float .f64 0]) ?_ 5 _ rfl
        refine blk_put (cs:=#[.float .f64 0,.float .f64 0,.float .f64 0,.float .f64 0,.float .f64 0,.float .f64 0,.float .f64 0,.float .f64 0]) ?_ 4 _ rfl
        refine blk_put (cs:=#[.float .f64 0,.float .f64 0,.float .f64 0,.float .f64 0,.float .f64 0,.float .f64 0,.float .f64 0,.float .f64 0]) ?_ 3 _ rfl
        refine blk_put (cs:=#[.float .f64 0,.float .f64 0,.float .f64 0,.float .f64 0,.float .f64 0,.float .f64 0,.float .f64 0,.float .f64 0]) ?_ 2 _ rfl
        refine blk_put (cs:=#[.float .f64 0,.float .f64 0,.float .f64 0,.float .f64 0,.float .f64 0,.float .f64 0,.float .f64 0,.float .f64 0]) ?_ 1 _ rfl
        refine blk_put (cs:=#[.float .f64 0,.float .f64 0,.float .f64 0,.float .f64 0,.float .f64 0,.float .f64 0,.float .f64 0,.float .f64 0]) ?_ 0 _ rfl
        exact (blk_drewN R3.out n1)) Try.underlying45 rfl (by kernel_rfl)) rfl ?_
       exact ⟨(0,0),(0,0),(0,0),(0,0),rfl,rfl,below_set (below_set (below_set (below_set (below_set (below_set (below_set (below_set (pw_below_drewN B3.out n1) (Nat.le_refl _)) (Nat.le_refl _)) (Nat.le_refl _)) (Nat.le_refl _)) (Nat.le_refl _)) (Nat.le_refl _)) (Nat.le_refl _)) (Nat.le_refl _)⟩
      | true =>
       rw [if_pos rfl] at h5
       obtain ⟨v,hv,h5⟩:=Option.bind_eq_some_iff.mp h5
       have HV:=Aside0.mk hv
       clear hv
       cases v with
       | false =>
        rw [if_neg (by decide)] at h5
        simp only [Option.some.injEq,Prod.mk.injEq] at h5
        obtain ⟨rfl,rfl⟩:=h5
        go_wp2_with fail
        refine (quarryref13_Finite.calls acc.1 true _ HU.out).mono ?_
        rintro e w1 ⟨rfl,n1,rfl⟩
        go_wp2_with fail
        refine (quarryref13_Finite.calls acc.2 false _ HV.out).mono ?_
        rintro e w2 ⟨rfl,n2,rfl⟩
        go_wp2_with fail
        refine bodyPost_ret (results_ct rfl _ _ w.heap.size 45 #[.float .f64 0,.float .f64 0,.float .f64 0,.float .f64 0,.float .f64 0,.float .f64 0,.float .f64 0,.float .f64 0] (0,0) _ rfl (by
         refine blk_put (cs:=#[.float .f64 0,.float .f64 0,.float .f64 0,.float .f64 0,.float .f64 0,.float .f64 0,.float .f64 0,.float .f64 0]) ?_ 7 _ rfl
         refine blk_put (cs:=#[.float .f64 0,.float .f64 0,.float .f64 0,.float .f64 0,.float .f64 0,.float .f64 0,.float .f64 0,.float .f64 0]) ?_ 6 _ rfl
         refine blk_put (cs:=#[.float .f64 0,.float .f64 0,.float .f64 0,.float .f64 0,.float .f64 0,.float .f64 0,.float .f64 0,.float .f64 0]) ?_ 5 _ rfl
         refine blk_put (cs:=#[.float .f64 0,.float .f64 0,.float .f64 0,.float .f64 0,.float .f64 0,.float .f64 0,.float .f64 0,.float .f64 0]) ?_ 4 _ rfl
         refine blk_put (cs:=#[.float .f64 0,.float .f64 0,.float .f64 0,.float .f64 0,.float .f64 0,.float .f64 0,.float .f64 0,.float .f64 0]) ?_ 3 _ rfl
         refine blk_put (cs:=#[.float .f64 0,.float .f64 0,.float .f64 0,.float .f64 0,.float .f64 0,.float .f64 0,.float .f64 0,.float .f64 0]) ?_ 2 _ rfl
         refine blk_put (cs:=#[.float .f64 0,.float .f64 0,.float .f64 0,.float .f64 0,.float .f64 0,.float .f64 0,.float .f64 0,.float .f64 0]) ?_ 1 _ rfl
         refine blk_put (cs:=#[.float .f64 0,.float .f64 0,.float .f64 0,.float .f64 0,.float .f64 0,.float .f64 0,.float .f64 0,.float .f64 0]) ?_ 0 _ rfl
         exact (blk_drewN R3.out (n1 + n2))) Try.underlying45 rfl (by kernel_rfl)) rfl ?_
        exact ⟨(0,0),(0,0),(0,0),(0,0),rfl,rfl,below_set (below_set (below_set (below_set (below_set (below_set (below_set (below_set (pw_below_drewN B3.out (n1 + n2)) (Nat.le_refl _)) (Nat.le_refl _)) (Nat.le_refl _)) (Nat.le_refl _)) (Nat.le_refl _)) (Nat.le_refl _)) (Nat.le_refl _)) (Nat.le_refl _)⟩
       | true =>
        rw [if_pos rfl] at h5
        have H5:=Aside0.mk h5
        clear h5
        go_wp2_with fail
        refine (quarryref13_Finite.calls acc.1 true _ HU.out).mono ?_
        rintro e w1 ⟨rfl,n1,rfl⟩
        go_wp2_with fail
        refine (quarryref13_Finite.calls acc.2 true _ HV.out).mono ?_
        rintro e w2 ⟨rfl,n2,rfl⟩
        go_wp2_with fail
        exact ⟨⟨2,[p0,acc],rfl,by omega,by first|rfl|go_num,H5.out,blk_put (blk_put (blk_drewN G3.out (n1 + n2)) 2 _ rfl) 3 _ rfl,blk_far (blk_far (blk_drewN R3.out (n1 + n2)) (p:=⟨g,2,none⟩) NG.out _) (p:=⟨g,3,none⟩) NG.out _,below_set (below_set (pw_below_drewN B3.out (n1 + n2)) GB.out) GB.out⟩,by simp [intOf]⟩
   ·
    obtain rfl : n = 2:=hP.symm
    have hi':=hi.trans (show Value.int .i64 ((2 : Nat) : Int) = .int .i64 2 from rfl)
    clear hi hP hn
    subst hi'
    have h2 : rTonesGo l (1 + 1) [p0,p1] = some (ps,r):=GO.out
    clear GO
    rw [rTonesGo] at h2
    obtain ⟨p,hp,h2⟩:=Option.bind_eq_some_iff.mp h2
    obtain ⟨u,hu,h2⟩:=Option.bind_eq_some_iff.mp h2
    have HP:=Aside0.mk (show rTone 2 l 0 (0,0) = some p from hp);have HU:=Aside0.mk hu;have H2:=Aside0.mk h2
    clear hp hu h2
    have G2:=Aside0.mk (show wr.heap[g]? = some (.cells #[.float .f64 p0.1,.float .f64 p0.2,.float .f64 p1.1,.float .f64 p1.2,.float .f64 0,.float .f64 0,.float .f64 0,.float .f64 0] 45 (0,0)) from G.out)
    clear G
    go_wp2_with fail
    go_loopw [6,7,8] (fun a b i wx=>∃ (j : Nat) (acc : Nat × Nat),j ≤ l.length ∧ a = .float .f64 acc.1 ∧ b = .float .f64 acc.2 ∧ i = .int .i64 j ∧ rTone 2 (l.drop j) j acc = some p ∧ wx.heap[g]? = some (.cells #[.float .f64 p0.1,.float .f64 p0.2,.float .f64 p1.1,.float .f64 p1.2,.float .f64 0,.float .f64 0,.float .f64 0,.float .f64 0] 45 (0,0)) ∧ wx.heap[w.heap.size]? = some (.cells #[.float .f64 0,.float .f64 0,.float .f64 0,.float .f64 0,.float .f64 0,.float .f64 0,.float .f64 0,.float .f64 0] 45 (0,0)) ∧ Below w.heap.size w wx) (fun _ _ i _=>l.length - (intOf i).toNat)
    case atStart=>exact ⟨0,(0,0),Nat.zero_le _,rfl,rfl,by go_num,HP.out,G2.out,R.out,B.out⟩
    case round =>
     obtain ⟨j,acc,hj,rfl,rfl,rfl,ha,hg,hr,hb⟩:=hrel
     have HA:=Aside0.mk ha;have G3:=Aside0.mk hg;have R3:=Aside0.mk hr;have B3:=Aside0.mk hb
     clear ha hg hr G2 R B HP
     by_cases hlt : j < l.length
     ·have hd : l.drop j = l[j] :: l.drop (j + 1):=List.drop_eq_getElem_cons hlt
      have h3:=HA.out
      rw [hd,rTone] at h3
      obtain ⟨m,hm⟩ : ∃ m,m = ((2 : Nat) : Int) * ((j : Int) % 4) % 4:=⟨_,rfl⟩
      rw [← hm] at h3
      obtain ⟨ad,rfl,x0⟩:=Kd.at_f64 (Kd.C_below HR.out hb) (j : Int) (by omega) (by omega)
      have ea : rdOf (0 : Nat) l (j : Int) = l[j]:=by unfold rdOf;simp [hlt]
      rw [ea,Int.toNat_natCast] at x0
      clear hb ea hd HA
      have hwr : IntKind.i64.wrap (2 * ((j : Int) % 4)) = (2 * ((j : Int) % 4)):=IntWalk.i64_in _ (by omega)
      have htm : Int.tmod (j : Int) 4 = (j : Int) % 4:=Int.tmod_eq_emod_of_nonneg (by omega)
      have htn : Int.tmod (2 * ((j : Int) % 4)) 4 = m:=by rw [Int.tmod_eq_emod_of_nonneg (by omega)];omega
      have hdm : m = 0 ∨ m = 2:=by omega
      clear hm
      rcases hdm with rfl|rfl
      ·
       have f1 : fok .add acc.1 l[j] = true:=Classical.byContradiction fun g_=>by (first|(rw [if_pos rfl,if_neg g_] at h3;cases h3)|(rw [if_neg (by decide),if_pos rfl,if_neg g_] at h3;cases h3)|(rw [if_neg (by decide),if_neg (by decide),if_pos rfl,if_neg g_] at h3;cases h3)|(rw [if_neg (by decide),if_neg (by decide),if_neg (by decide),if_neg g_] at h3;cases h3))
       have h4 : rTone 2 (l.drop (j + 1)) (j + 1) (fop .add acc.1 l[j],acc.2) = some p:=by (first|(rw [if_pos rfl,if_pos f1] at h3;exact h3)|(rw [if_neg (by decide),if_pos rfl,if_pos f1] at h3;exact h3)|(rw [if_neg (by decide),if_neg (by decide),if_pos rfl,if_pos f1] at h3;exact h3)|(rw [if_neg (by decide),if_neg (by decide),if_neg (by decide),if_pos f1] at h3;exact h3))
       have H4:=Aside0.mk h4
       clear h3 h4
       go_wp2
       exact ⟨⟨j + 1,(fop .add acc.1 l[j],acc.2),by omega,rfl,rfl,by go_num,H4.out,G3.out,R3.out,B3.out⟩,by simp [intOf];omega⟩
      ·
       have f1 : fok .sub acc.1 l[j] = true:=Classical.byContradiction fun g_=>by (first|(rw [if_pos rfl,if_neg g_] at h3;cases h3)|(rw [if_neg (by decide),if_pos rfl,if_neg g_] at h3;cases h3)|(rw [if_neg (by decide),if_neg (by decide),if_pos rfl,if_neg g_] at h3;cases h3)|(rw [if_neg (by decide),if_neg (by decide),if_neg (by decide),if_neg g_] at h3;cases h3))
       have h4 : rTone 2 (l.drop (j + 1)) (j + 1) (fop .sub acc.1 l[j],acc.2) = some p:=by (first|(rw [if_pos rfl,if_pos f1] at h3;exact h3)|(rw [if_neg (by decide),if_pos rfl,if_pos f1] at h3;exact h3)|(rw [if_neg (by decide),if_neg (by decide),if_pos rfl,if_pos f1] at h3;exact h3)|(rw [if_neg (by decide),if_neg (by decide),if_neg (by decide),if_pos f1] at h3;exact h3))
       have H4:=Aside0.mk h4
       clear h3 h4
       go_wp2
       exact ⟨⟨j + 1,(fop .sub acc.1 l[j],acc.2),by omega,rfl,rfl,by go_num,H4.out,G3.out,R3.out,B3.out⟩,by simp [intOf];omega⟩
     ·have hje : l.length ≤ j:=by omega
      have h4:=HA.out
      rw [List.drop_of_length_le hje,rTone] at h4
      obtain rfl:=Option.some.inj h4
      clear h4 HA hb hje
      obtain ⟨g0,g1,g2,g3,g4,g5,g6,g7,fg0,fg1,fg2,fg3,fg4,fg5,fg6,fg7⟩:=cf8_ G3
      obtain ⟨r0,r1,r2,r3,r4,r5,r6,r7,fr0,fr1,fr2,fr3,fr4,fr5,fr6,fr7⟩:=cf8_ R3
      have h5:=H2.out
      clear H2
      cases u with
      | false =>
       rw [if_neg (by decide)] at h5
       simp only [Option.some.injEq,Prod.mk.injEq] at h5
       obtain ⟨rfl,rfl⟩:=h5
       go_wp2_with fail
       refine (quarryref13_Finite.calls acc.1 false _ HU.out).mono ?_
       rintro e w1 ⟨rfl,n1,rfl⟩
       go_wp2_with fail
       refine bodyPost_ret (results_ct rfl _ _ w.heap.size 45 #[.float .f64 0,.float .f64 0,.float .f64 0,.float .f64 0,.float .f64 0,.float .f64 0,.float .f64 0,.float .f64 0] (0,0) _ rfl (by
        refine blk_put (cs:=#[.float .f64 0,.float .f64 0,.float .f64 0,.float .f64 0,.float .f64 0,.float .f64 0,.float .f64 0,.float .f64 0]) ?_ 7 _ rfl
        refine blk_put (cs:=#[.float .f64 0,.float .f64 0,.float .f64 0,.float .f64 0,.float .f64 0,.float .f64 0,.float .f64 0,.float .f64 0]) ?_ 6 _ rfl
        refine blk_put (cs:=#[.float .f64 0,.float .f64 0,.float .f64 0,.float .f64 0,.float .f64 0,.float .f64 0,.float .f64 0,.float .f64 0]) ?_ 5 _ rfl
        refine blk_put (cs:=#[.float .f64 0,.float .f64 0,.float .f64 0,.float .f64 0,.float .f64 0,.float .f64 0,.float .f64 0,.float .f64 0]) ?_ 4 _ rfl
        refine blk_put (cs:=#[.float .f64 0,.float .f64 0,.float .f64 0,.float .f64 0,.float .f64 0,.float .f64 0,.float .f64 0,.float .f64 0]) ?_ 3 _ rfl
        refine blk_put (cs:=#[.float .f64 0,.float .f64 0,.float .f64 0,.float .f64 0,.float .f64 0,.float .f64 0,.float .f64 0,.float .f64 0]) ?_ 2 _ rfl
        refine blk_put (cs:=#[.float .f64 0,.float .f64 0,.float .f64 0,.float .f64 0,.float .f64 0,.float .f64 0,.float .f64 0,.float .f64 0]) ?_ 1 _ rfl
        refine blk_put (cs:=#[.float .f64 0,.float .f64 0,.float .f64 0,.float .f64 0,.float .f64 0,.float .f64 0,.float .f64 0,.float .f64 0]) ?_ 0 _ rfl
        exact (blk_drewN R3.out n1)) Try.underlying45 rfl (by kernel_rfl)) rfl ?_
       exact ⟨(0,0),(0,0),(0,0),(0,0),rfl,rfl,below_set (below_set (below_set (below_set (below_set (below_set (below_set (below_set (pw_below_drewN B3.out n1) (Nat.le_refl _)) (Nat.le_refl _)) (Nat.le_refl _)) (Nat.le_refl _)) (Nat.le_refl _)) (Nat.le_refl _)) (Nat.le_refl _)) (Nat.le_refl _)⟩
      | true =>
       rw [if_pos rfl] at h5
       obtain ⟨v,hv,h5⟩:=Option.bind_eq_some_iff.mp h5
       have HV:=Aside0.mk hv
       clear hv
       cases v with
       | false =>
        rw [if_neg (by decide)] at h5
        simp only [Option.some.injEq,Prod.mk.injEq] at h5
        obtain ⟨rfl,rfl⟩:=h5
        go_wp2_with fail
        refine (quarryref13_Finite.calls acc.1 true _ HU.out).mono ?_
        rintro e w1 ⟨rfl,n1,rfl⟩
        go_wp2_with fail
        refine (quarryref13_Finite.calls acc.2 false _ HV.out).mono ?_
        rintro e w2 ⟨rfl,n2,rfl⟩
        go_wp2_with fail
        refine bodyPost_ret (results_ct rfl _ _ w.heap.size 45 #[.float .f64 0,.float .f64 0,.float .f64 0,.float .f64 0,.float .f64 0,.float .f64 0,.float .f64 0,.float .f64 0] (0,0) _ rfl (by
         refine blk_put (cs:=#[.float .f64 0,.float .f64 0,.float .f64 0,.float .f64 0,.float .f64 0,.float .f64 0,.float .f64 0,.float .f64 0]) ?_ 7 _ rfl
         refine blk_put (cs:=#[.float .f64 0,.float .f64 0,.float .f64 0,.float .f64 0,.float .f64 0,.float .f64 0,.float .f64 0,.float .f64 0]) ?_ 6 _ rfl
         refine blk_put (cs:=#[.float .f64 0,.float .f64 0,.float .f64 0,.float .f64 0,.float .f64 0,.float .f64 0,.float .f64 0,.float .f64 0]) ?_ 5 _ rfl
         refine blk_put (cs:=#[.float .f64 0,.float .f64 0,.float .f64 0,.float .f64 0,.float .f64 0,.float .f64 0,.float .f64 0,.float .f64 0]) ?_ 4 _ rfl
         refine blk_put (cs:=#[.float .f64 0,.float .f64 0,.float .f64 0,.float .f64 0,.float .f64 0,.float .f64 0,.float .f64 0,.float .f64 0]) ?_ 3 _ rfl
         refine blk_put (cs:=#[.float .f64 0,.float .f64 0,.float .f64 0,.float .f64 0,.float .f64 0,.float .f64 0,.float .f64 0,.float .f64 0]) ?_ 2 _ rfl
         refine blk_put (cs:=#[.float .f64 0,.float .f64 0,.float .f64 0,.float .f64 0,.float .f64 0,.float .f64 0,.float .f64 0,.float .f64 0]) ?_ 1 _ rfl
         refine blk_put (cs:=#[.float .f64 0,.float .f64 0,.float .f64 0,.float .f64 0,.float .f64 0,.float .f64 0,.float .f64 0,.float .f64 0]) ?_ 0 _ rfl
         exact (blk_drewN R3.out (n1 + n2))) Try.underlying45 rfl (by kernel_rfl)) rfl ?_
        exact ⟨(0,0),(0,0),(0,0),(0,0),rfl,rfl,below_set (below_set (below_set (below_set (below_set (below_set (below_set (below_set (pw_below_drewN B3.out (n1 + n2)) (Nat.le_refl _)) (Nat.le_refl _)) (Nat.le_refl _)) (Nat.le_refl _)) (Nat.le_refl _)) (Nat.le_refl _)) (Nat.le_refl _)) (Nat.le_refl _)⟩
       | true =>
        rw [if_pos rfl] at h5
        have H5:=Aside0.mk h5
        clear h5
        go_wp2_with fail
        refine (quarryref13_Finite.calls acc.1 true _ HU.out).mono ?_
        rintro e w1 ⟨rfl,n1,rfl⟩
        go_wp2_with fail
        refine (quarryref13_Finite.calls acc.2 true _ HV.out).mono ?_
        rintro e w2 ⟨rfl,n2,rfl⟩
        go_wp2_with fail
        exact ⟨⟨3,[p0,p1,acc],rfl,by omega,by first|rfl|go_num,H5.out,blk_put (blk_put (blk_drewN G3.out (n1 + n2)) 4 _ rfl) 5 _ rfl,blk_far (blk_far (blk_drewN R3.out (n1 + n2)) (p:=⟨g,4,none⟩) NG.out _) (p:=⟨g,5,none⟩) NG.out _,below_set (below_set (pw_below_drewN B3.out (n1 + n2)) GB.out) GB.out⟩,by simp [intOf]⟩
   ·
    obtain rfl : n = 3:=hP.symm
    have hi':=hi.trans (show Value.int .i64 ((3 : Nat) : Int) = .int .i64 3 from rfl)
    clear hi hP hn
    subst hi'
    have h2 : rTonesGo l (0 + 1) [p0,p1,p2] = some (ps,r):=GO.out
    clear GO
    rw [rTonesGo] at h2
    obtain ⟨p,hp,h2⟩:=Option.bind_eq_some_iff.mp h2
    obtain ⟨u,hu,h2⟩:=Option.bind_eq_some_iff.mp h2
    have HP:=Aside0.mk (show rTone 3 l 0 (0,0) = some p from hp);have HU:=Aside0.mk hu;have H2:=Aside0.mk h2
    clear hp hu h2
    have G2:=Aside0.mk (show wr.heap[g]? = some (.cells #[.float .f64 p0.1,.float .f64 p0.2,.float .f64 p1.1,.float .f64 p1.2,.float .f64 p2.1,.float .f64 p2.2,.float .f64 0,.float .f64 0] 45 (0,0)) from G.out)
    clear G
    go_wp2_with fail
    go_loopw [6,7,8] (fun a b i wx=>∃ (j : Nat) (acc : Nat × Nat),j ≤ l.length ∧ a = .float .f64 acc.1 ∧ b = .float .f64 acc.2 ∧ i = .int .i64 j ∧ rTone 3 (l.drop j) j acc = some p ∧ wx.heap[g]? = some (.cells #[.float .f64 p0.1,.float .f64 p0.2,.float .f64 p1.1,.float .f64 p1.2,.float .f64 p2.1,.float .f64 p2.2,.float .f64 0,.float .f64 0] 45 (0,0)) ∧ wx.heap[w.heap.size]? = some (.cells #[.float .f64 0,.float .f64 0,.float .f64 0,.float .f64 0,.float .f64 0,.float .f64 0,.float .f64 0,.float .f64 0] 45 (0,0)) ∧ Below w.heap.size w wx) (fun _ _ i _=>l.length - (intOf i).toNat)
    case atStart=>exact ⟨0,(0,0),Nat.zero_le _,rfl,rfl,by go_num,HP.out,G2.out,R.out,B.out⟩
    case round =>
     obtain ⟨j,acc,hj,rfl,rfl,rfl,ha,hg,hr,hb⟩:=hrel
     have HA:=Aside0.mk ha;have G3:=Aside0.mk hg;have R3:=Aside0.mk hr;have B3:=Aside0.mk hb
     clear ha hg hr G2 R B HP
     by_cases hlt : j < l.length
     ·have hd : l.drop j = l[j] :: l.drop (j + 1):=List.drop_eq_getElem_cons hlt
      have h3:=HA.out
      rw [hd,rTone] at h3
      obtain ⟨m,hm⟩ : ∃ m,m = ((3 : Nat) : Int) * ((j : Int) % 4) % 4:=⟨_,rfl⟩
      rw [← hm] at h3
      obtain ⟨ad,rfl,x0⟩:=Kd.at_f64 (Kd.C_below HR.out hb) (j : Int) (by omega) (by omega)
      have ea : rdOf (0 : Nat) l (j : Int) = l[j]:=by unfold rdOf;simp [hlt]
      rw [ea,Int.toNat_natCast] at x0
      clear hb ea hd HA
      have hwr : IntKind.i64.wrap (3 * ((j : Int) % 4)) = (3 * ((j : Int) % 4)):=IntWalk.i64_in _ (by omega)
      have htm : Int.tmod (j : Int) 4 = (j : Int) % 4:=Int.tmod_eq_emod_of_nonneg (by omega)
      have htn : Int.tmod (3 * ((j : Int) % 4)) 4 = m:=by rw [Int.tmod_eq_emod_of_nonneg (by omega)];omega
      have hdm : m = 0 ∨ m = 1 ∨ m = 2 ∨ m = 3:=by omega
      clear hm
      rcases hdm with rfl|rfl|rfl|rfl
      ·
       have f1 : fok .add acc.1 l[j] = true:=Classical.byContradiction fun g_=>by (first|(rw [if_pos rfl,if_neg g_] at h3;cases h3)|(rw [if_neg (by decide),if_pos rfl,if_neg g_] at h3;cases h3)|(rw [if_neg (by decide),if_neg (by decide),if_pos rfl,if_neg g_] at h3;cases h3)|(rw [if_neg (by decide),if_neg (by decide),if_neg (by decide),if_neg g_] at h3;cases h3))
       have h4 : rTone 3 (l.drop (j + 1)) (j + 1) (fop .add acc.1 l[j],acc.2) = some p:=by (first|(rw [if_pos rfl,if_pos f1] at h3;exact h3)|(rw [if_neg (by decide),if_pos rfl,if_pos f1] at h3;exact h3)|(rw [if_neg (by decide),if_neg (by decide),if_pos rfl,if_pos f1] at h3;exact h3)|(rw [if_neg (by decide),if_neg (by decide),if_neg (by decide),if_pos f1] at h3;exact h3))
       have H4:=Aside0.mk h4
       clear h3 h4
       go_wp2
       exact ⟨⟨j + 1,(fop .add acc.1 l[j],acc.2),by omega,rfl,rfl,by go_num,H4.out,G3.out,R3.out,B3.out⟩,by simp [intOf];omega⟩
      ·
       have f1 : fok .sub acc.2 l[j] = true:=Classical.byContradiction fun g_=>by (first|(rw [if_pos rfl,if_neg g_] at h3;cases h3)|(rw [if_neg (by decide),if_pos rfl,if_neg g_] at h3;cases h3)|(rw [if_neg (by decide),if_neg (by decide),if_pos rfl,if_neg g_] at h3;cases h3)|(rw [if_neg (by decide),if_neg (by decide),if_neg (by decide),if_neg g_] at h3;cases h3))
       have h4 : rTone 3 (l.drop (j + 1)) (j + 1) (acc.1,fop .sub acc.2 l[j]) = some p:=by (first|(rw [if_pos rfl,if_pos f1] at h3;exact h3)|(rw [if_neg (by decide),if_pos rfl,if_pos f1] at h3;exact h3)|(rw [if_neg (by decide),if_neg (by decide),if_pos rfl,if_pos f1] at h3;exact h3)|(rw [if_neg (by decide),if_neg (by decide),if_neg (by decide),if_pos f1] at h3;exact h3))
       have H4:=Aside0.mk h4
       clear h3 h4
       go_wp2
       exact ⟨⟨j + 1,(acc.1,fop .sub acc.2 l[j]),by omega,rfl,rfl,by go_num,H4.out,G3.out,R3.out,B3.out⟩,by simp [intOf];omega⟩
      ·
       have f1 : fok .sub acc.1 l[j] = true:=Classical.byContradiction fun g_=>by (first|(rw [if_pos rfl,if_neg g_] at h3;cases h3)|(rw [if_neg (by decide),if_pos rfl,if_neg g_] at h3;cases h3)|(rw [if_neg (by decide),if_neg (by decide),if_pos rfl,if_neg g_] at h3;cases h3)|(rw [if_neg (by decide),if_neg (by decide),if_neg (by decide),if_neg g_] at h3;cases h3))
       have h4 : rTone 3 (l.drop (j + 1)) (j + 1) (fop .sub acc.1 l[j],acc.2) = some p:=by (first|(rw [if_pos rfl,if_pos f1] at h3;exact h3)|(rw [if_neg (by decide),if_pos rfl,if_pos f1] at h3;exact h3)|(rw [if_neg (by decide),if_neg (by decide),if_pos rfl,if_pos f1] at h3;exact h3)|(rw [if_neg (by decide),if_neg (by decide),if_neg (by decide),if_pos f1] at h3;exact h3))
       have H4:=Aside0.mk h4
       clear h3 h4
       go_wp2
       exact ⟨⟨j + 1,(fop .sub acc.1 l[j],acc.2),by omega,rfl,rfl,by go_num,H4.out,G3.out,R3.out,B3.out⟩,by simp [intOf];omega⟩
      ·
       have f1 : fok .add acc.2 l[j] = true:=Classical.byContradiction fun g_=>by (first|(rw [if_pos rfl,if_neg g_] at h3;cases h3)|(rw [if_neg (by decide),if_pos rfl,if_neg g_] at h3;cases h3)|(rw [if_neg (by decide),if_neg (by decide),if_pos rfl,if_neg g_] at h3;cases h3)|(rw [if_neg (by decide),if_neg (by decide),if_neg (by decide),if_neg g_] at h3;cases h3))
       have h4 : rTone 3 (l.drop (j + 1)) (j + 1) (acc.1,fop .add acc.2 l[j]) = some p:=by (first|(rw [if_pos rfl,if_pos f1] at h3;exact h3)|(rw [if_neg (by decide),if_pos rfl,if_pos f1] at h3;exact h3)|(rw [if_neg (by decide),if_neg (by decide),if_pos rfl,if_pos f1] at h3;exact h3)|(rw [if_neg (by decide),if_neg (by decide),if_neg (by decide),if_pos f1] at h3;exact h3))
       have H4:=Aside0.mk h4
       clear h3 h4
       go_wp2
       exact ⟨⟨j + 1,(acc.1,fop .add acc.2 l[j]),by omega,rfl,rfl,by go_num,H4.out,G3.out,R3.out,B3.out⟩,by simp [intOf];omega⟩
     ·have hje : l.length ≤ j:=by omega
      have h4:=HA.out
      rw [List.drop_of_length_le hje,rTone] at h4
      obtain rfl:=Option.some.inj h4
      clear h4 HA hb hje
      obtain ⟨g0,g1,g2,g3,g4,g5,g6,g7,fg0,fg1,fg2,fg3,fg4,fg5,fg6,fg7⟩:=cf8_ G3
      obtain ⟨r0,r1,r2,r3,r4,r5,r6,r7,fr0,fr1,fr2,fr3,fr4,fr5,fr6,fr7⟩:=cf8_ R3
      have h5:=H2.out
      clear H2
      cases u with
      | false =>
       rw [if_neg (by decide)] at h5
       simp only [Option.some.injEq,Prod.mk.injEq] at h5
       obtain ⟨rfl,rfl⟩:=h5
       go_wp2_with fail
       refine (quarryref13_Finite.calls acc.1 false _ HU.out).mono ?_
       rintro e w1 ⟨rfl,n1,rfl⟩
       go_wp2_with fail
       refine bodyPost_ret (results_ct rfl _ _ w.heap.size 45 #[.float .f64 0,.float .f64 0,.float .f64 0,.float .f64 0,.float .f64 0,.float .f64 0,.float .f64 0,.float .f64 0] (0,0) _ rfl (by
        refine blk_put (cs:=#[.float .f64 0,.float .f64 0,.float .f64 0,.float .f64 0,.float .f64 0,.float .f64 0,.float .f64 0,.float .f64 0]) ?_ 7 _ rfl
        refine blk_put (cs:=#[.float .f64 0,.float .f64 0,.float .f64 0,.float .f64 0,.float .f64 0,.float .f64 0,.float .f64 0,.float .f64 0]) ?_ 6 _ rfl
        refine blk_put (cs:=#[.float .f64 0,.float .f64 0,.float .f64 0,.float .f64 0,.float .f64 0,.float .f64 0,.float .f64 0,.float .f64 0]) ?_ 5 _ rfl
        refine blk_put (cs:=#[.float .f64 0,.float .f64 0,.float .f64 0,.float .f64 0,.float .f64 0,.float .f64 0,.float .f64 0,.float .f64 0]) ?_ 4 _ rfl
        refine blk_put (cs:=#[.float .f64 0,.float .f64 0,.float .f64 0,.float .f64 0,.float .f64 0,.float .f64 0,.float .f64 0,.float .f64 0]) ?_ 3 _ rfl
        refine blk_put (cs:=#[.float .f64 0,.float .f64 0,.float .f64 0,.float .f64 0,.float .f64 0,.float .f64 0,.float .f64 0,.float .f64 0]) ?_ 2 _ rfl
        refine blk_put (cs:=#[.float .f64 0,.float .f64 0,.float .f64 0,.float .f64 0,.float .f64 0,.float .f64 0,.float .f64 0,.float .f64 0]) ?_ 1 _ rfl
        refine blk_put (cs:=#[.float .f64 0,.float .f64 0,.float .f64 0,.float .f64 0,.float .f64 0,.float .f64 0,.float .f64 0,.float .f64 0]) ?_ 0 _ rfl
        exact (blk_drewN R3.out n1)) Try.underlying45 rfl (by kernel_rfl)) rfl ?_
       exact ⟨(0,0),(0,0),(0,0),(0,0),rfl,rfl,below_set (below_set (below_set (below_set (below_set (below_set (below_set (below_set (pw_below_drewN B3.out n1) (Nat.le_refl _)) (Nat.le_refl _)) (Nat.le_refl _)) (Nat.le_refl _)) (Nat.le_refl _)) (Nat.le_refl _)) (Nat.le_refl _)) (Nat.le_refl _)⟩
      | true =>
       rw [if_pos rfl] at h5
       obtain ⟨v,hv,h5⟩:=Option.bind_eq_some_iff.mp h5
       have HV:=Aside0.mk hv
       clear hv
       cases v with
       | false =>
        rw [if_neg (by decide)] at h5
        simp only [Option.some.injEq,Prod.mk.injEq] at h5
        obtain ⟨rfl,rfl⟩:=h5
        go_wp2_with fail
        refine (quarryref13_Finite.calls acc.1 true _ HU.out).mono ?_
        rintro e w1 ⟨rfl,n1,rfl⟩
        go_wp2_with fail
        refine (quarryref13_Finite.calls acc.2 false _ HV.out).mono ?_
        rintro e w2 ⟨rfl,n2,rfl⟩
        go_wp2_with fail
        refine bodyPost_ret (results_ct rfl _ _ w.heap.size 45 #[.float .f64 0,.float .f64 0,.float .f64 0,.float .f64 0,.float .f64 0,.float .f64 0,.float .f64 0,.float .f64 0] (0,0) _ rfl (by
         refine blk_put (cs:=#[.float .f64 0,.float .f64 0,.float .f64 0,.float .f64 0,.float .f64 0,.float .f64 0,.float .f64 0,.float .f64 0]) ?_ 7 _ rfl
         refine blk_put (cs:=#[.float .f64 0,.float .f64 0,.float .f64 0,.float .f64 0,.float .f64 0,.float .f64 0,.float .f64 0,.float .f64 0]) ?_ 6 _ rfl
         refine blk_put (cs:=#[.float .f64 0,.float .f64 0,.float .f64 0,.float .f64 0,.float .f64 0,.float .f64 0,.float .f64 0,.float .f64 0]) ?_ 5 _ rfl
         refine blk_put (cs:=#[.float .f64 0,.float .f64 0,.float .f64 0,.float .f64 0,.float .f64 0,.float .f64 0,.float .f64 0,.float .f64 0]) ?_ 4 _ rfl
         refine blk_put (cs:=#[.float .f64 0,.float .f64 0,.float .f64 0,.float .f64 0,.float .f64 0,.float .f64 0,.float .f64 0,.float .f64 0]) ?_ 3 _ rfl
         refine blk_put (cs:=#[.float .f64 0,.float .f64 0,.float .f64 0,.float .f64 0,.float .f64 0,.float .f64 0,.float .f64 0,.float .f64 0]) ?_ 2 _ rfl
         refine blk_put (cs:=#[.float .f64 0,.float .f64 0,.float .f64 0,.float .f64 0,.float .f64 0,.float .f64 0,.float .f64 0,.float .f64 0]) ?_ 1 _ rfl
         refine blk_put (cs:=#[.float .f64 0,.float .f64 0,.float .f64 0,.float .f64 0,.float .f64 0,.float .f64 0,.float .f64 0,.float .f64 0]) ?_ 0 _ rfl
         exact (blk_drewN R3.out (n1 + n2))) Try.underlying45 rfl (by kernel_rfl)) rfl ?_
        exact ⟨(0,0),(0,0),(0,0),(0,0),rfl,rfl,below_set (below_set (below_set (below_set (below_set (below_set (below_set (below_set (pw_below_drewN B3.out (n1 + n2)) (Nat.le_refl _)) (Nat.le_refl _)) (Nat.le_refl _)) (Nat.le_refl _)) (Nat.le_refl _)) (Nat.le_refl _)) (Nat.le_refl _)) (Nat.le_refl _)⟩
       | true =>
        rw [if_pos rfl] at h5
        have H5:=Aside0.mk h5
        clear h5
        go_wp2_with fail
        refine (quarryref13_Finite.calls acc.1 true _ HU.out).mono ?_
        rintro e w1 ⟨rfl,n1,rfl⟩
        go_wp2_with fail
        refine (quarryref13_Finite.calls acc.2 true _ HV.out).mono ?_
        rintro e w2 ⟨rfl,n2,rfl⟩
        go_wp2_with fail
        exact ⟨⟨4,[p0,p1,p2,acc],rfl,by omega,by first|rfl|go_num,H5.out,blk_put (blk_put (blk_drewN G3.out (n1 + n2)) 6 _ rfl) 7 _ rfl,blk_far (blk_far (blk_drewN R3.out (n1 + n2)) (p:=⟨g,6,none⟩) NG.out _) (p:=⟨g,7,none⟩) NG.out _,below_set (below_set (pw_below_drewN B3.out (n1 + n2)) GB.out) GB.out⟩,by simp [intOf]⟩
   ·obtain rfl : n = 4:=hP.symm
    have hi':=hi.trans (show Value.int .i64 ((4 : Nat) : Int) = .int .i64 4 from rfl)
    clear hi hP hn
    subst hi'
    have h2 : some ([p0,p1,p2,p3],(0 : Int)) = some (ps,r):=GO.out
    clear GO
    simp only [Option.some.injEq,Prod.mk.injEq] at h2
    obtain ⟨rfl,rfl⟩:=h2
    have G5:=Aside0.mk (show wr.heap[g]? = some (.cells #[.float .f64 p0.1,.float .f64 p0.2,.float .f64 p1.1,.float .f64 p1.2,.float .f64 p2.1,.float .f64 p2.2,.float .f64 p3.1,.float .f64 p3.2] 45 (0,0)) from G.out)
    obtain ⟨g0,g1,g2,g3,g4,g5,g6,g7,fg0,fg1,fg2,fg3,fg4,fg5,fg6,fg7⟩:=cf8_ G5
    obtain ⟨r0,r1,r2,r3,r4,r5,r6,r7,fr0,fr1,fr2,fr3,fr4,fr5,fr6,fr7⟩:=cf8_ R
    go_wp2
    refine bodyPost_ret (results_ct rfl _ _ w.heap.size 45 #[.float .f64 p0.1,.float .f64 p0.2,.float .f64 p1.1,.float .f64 p1.2,.float .f64 p2.1,.float .f64 p2.2,.float .f64 p3.1,.float .f64 p3.2] (0,0) _ rfl (by
     refine blk_put (cs:=#[.float .f64 p0.1,.float .f64 p0.2,.float .f64 p1.1,.float .f64 p1.2,.float .f64 p2.1,.float .f64 p2.2,.float .f64 p3.1,.float .f64 0]) ?_ 7 _ rfl
     refine blk_put (cs:=#[.float .f64 p0.1,.float .f64 p0.2,.float .f64 p1.1,.float .f64 p1.2,.float .f64 p2.1,.float .f64 p2.2,.float .f64 0,.float .f64 0]) ?_ 6 _ rfl
     refine blk_put (cs:=#[.float .f64 p0.1,.float .f64 p0.2,.float .f64 p1.1,.float .f64 p1.2,.float .f64 p2.1,.float .f64 0,.float .f64 0,.float .f64 0]) ?_ 5 _ rfl
     refine blk_put (cs:=#[.float .f64 p0.1,.float .f64 p0.2,.float .f64 p1.1,.float .f64 p1.2,.float .f64 0,.float .f64 0,.float .f64 0,.float .f64 0]) ?_ 4 _ rfl
     refine blk_put (cs:=#[.float .f64 p0.1,.float .f64 p0.2,.float .f64 p1.1,.float .f64 0,.float .f64 0,.float .f64 0,.float .f64 0,.float .f64 0]) ?_ 3 _ rfl
     refine blk_put (cs:=#[.float .f64 p0.1,.float .f64 p0.2,.float .f64 0,.float .f64 0,.float .f64 0,.float .f64 0,.float .f64 0,.float .f64 0]) ?_ 2 _ rfl
     refine blk_put (cs:=#[.float .f64 p0.1,.float .f64 0,.float .f64 0,.float .f64 0,.float .f64 0,.float .f64 0,.float .f64 0,.float .f64 0]) ?_ 1 _ rfl
     refine blk_put (cs:=#[.float .f64 0,.float .f64 0,.float .f64 0,.float .f64 0,.float .f64 0,.float .f64 0,.float .f64 0,.float .f64 0]) ?_ 0 _ rfl
     exact R.out) Try.underlying45 rfl (by kernel_rfl)) rfl ?_
    exact ⟨p0,p1,p2,p3,rfl,rfl,below_set (below_set (below_set (below_set (below_set (below_set (below_set (below_set (B.out) (Nat.le_refl _)) (Nat.le_refl _)) (Nat.le_refl _)) (Nat.le_refl _)) (Nat.le_refl _)) (Nat.le_refl _)) (Nat.le_refl _)) (Nat.le_refl _)⟩
   ·simp at hP;omega
 ·have c1b:=Bool.eq_false_iff.mpr c1
  subst c1b
  rw [if_neg (by decide)] at h
  simp only [Option.some.injEq,Prod.mk.injEq] at h
  obtain ⟨rfl,rfl⟩:=h
  go_enter Try.func24,Try.ntmps24
  go_upto_region 1 with fail
  have R0:=Aside0.mk (show (w.alloc (.cells #[.float .f64 0,.float .f64 0,.float .f64 0,.float .f64 0,.float .f64 0,.float .f64 0,.float .f64 0,.float .f64 0] 45)).heap[w.heap.size]? = some (.cells #[.float .f64 0,.float .f64 0,.float .f64 0,.float .f64 0,.float .f64 0,.float .f64 0,.float .f64 0,.float .f64 0] 45 (0,0)) from blk_new w _)
  have B0:=Aside0.mk (show Below w.heap.size w (w.alloc (.cells #[.float .f64 0,.float .f64 0,.float .f64 0,.float .f64 0,.float .f64 0,.float .f64 0,.float .f64 0,.float .f64 0] 45)) from (Below.refl w.heap.size w).alloc (Nat.le_refl _) _)
  have K0:=Aside0.mk (show Kd.C Kd.f64 (w.alloc (.cells #[.float .f64 0,.float .f64 0,.float .f64 0,.float .f64 0,.float .f64 0,.float .f64 0,.float .f64 0,.float .f64 0] 45)) A0 l.length l from Kd.C_alloc HR.out _)
  obtain ⟨W0,hW0⟩ : ∃ W0,W0 = w.alloc (.cells #[.float .f64 0,.float .f64 0,.float .f64 0,.float .f64 0,.float .f64 0,.float .f64 0,.float .f64 0,.float .f64 0] 45):=⟨_,rfl⟩
  rw [← hW0] at R0 B0 K0 ⊢
  clear hW0
  have hz0 : w.heap.size < W0.heap.size:=blk_lt R0.out
  go_wp2_with fail
  refine (quarryref31_All.calls k A0 c0 l false _ (Kd.C_alloc K0.out _) hc0 HT.out).mono ?_
  rintro e w1 ⟨rfl,nd,rfl⟩
  have R1:=Aside0.mk (show ((W0.alloc (.cells #[.float .f64 0,.float .f64 0,.float .f64 0,.float .f64 0,.float .f64 0,.float .f64 0,.float .f64 0,.float .f64 0] 45)).drewN nd).heap[w.heap.size]? = some (.cells #[.float .f64 0,.float .f64 0,.float .f64 0,.float .f64 0,.float .f64 0,.float .f64 0,.float .f64 0,.float .f64 0] 45 (0,0)) from blk_drewN (blk_alloc R0.out _) nd)
  have G1:=Aside0.mk (show ((W0.alloc (.cells #[.float .f64 0,.float .f64 0,.float .f64 0,.float .f64 0,.float .f64 0,.float .f64 0,.float .f64 0,.float .f64 0] 45)).drewN nd).heap[W0.heap.size]? = some (.cells #[.float .f64 0,.float .f64 0,.float .f64 0,.float .f64 0,.float .f64 0,.float .f64 0,.float .f64 0,.float .f64 0] 45 (0,0)) from blk_drewN (blk_new W0 _) nd)
  have B1:=Aside0.mk (show Below w.heap.size w ((W0.alloc (.cells #[.float .f64 0,.float .f64 0,.float .f64 0,.float .f64 0,.float .f64 0,.float .f64 0,.float .f64 0,.float .f64 0] 45)).drewN nd) from pw_below_drewN (below_alloc B0.out _) nd)
  obtain ⟨W1,hW1⟩ : ∃ W1,W1 = ((W0.alloc (.cells #[.float .f64 0,.float .f64 0,.float .f64 0,.float .f64 0,.float .f64 0,.float .f64 0,.float .f64 0,.float .f64 0] 45)).drewN nd):=⟨_,rfl⟩
  rw [← hW1] at R1 G1 B1 ⊢
  clear hW1 R0 B0 K0
  obtain ⟨g,hgg⟩ : ∃ g,g = W0.heap.size:=⟨_,rfl⟩
  rw [← hgg] at G1 hz0 ⊢
  have NG:=Aside0.mk (show w.heap.size ≠ g by omega)
  have GB:=Aside0.mk (show w.heap.size ≤ g by omega)
  clear hgg hz0
  obtain ⟨g0,g1,g2,g3,g4,g5,g6,g7,fg0,fg1,fg2,fg3,fg4,fg5,fg6,fg7⟩:=cf8_ G1
  obtain ⟨r0,r1,r2,r3,r4,r5,r6,r7,fr0,fr1,fr2,fr3,fr4,fr5,fr6,fr7⟩:=cf8_ R1
  go_wp2
  refine bodyPost_ret (results_ct rfl _ _ w.heap.size 45 #[.float .f64 0,.float .f64 0,.float .f64 0,.float .f64 0,.float .f64 0,.float .f64 0,.float .f64 0,.float .f64 0] (0,0) _ rfl (by
   refine blk_put (cs:=#[.float .f64 0,.float .f64 0,.float .f64 0,.float .f64 0,.float .f64 0,.float .f64 0,.float .f64 0,.float .f64 0]) ?_ 7 _ rfl
   refine blk_put (cs:=#[.float .f64 0,.float .f64 0,.float .f64 0,.float .f64 0,.float .f64 0,.float .f64 0,.float .f64 0,.float .f64 0]) ?_ 6 _ rfl
   refine blk_put (cs:=#[.float .f64 0,.float .f64 0,.float .f64 0,.float .f64 0,.float .f64 0,.float .f64 0,.float .f64 0,.float .f64 0]) ?_ 5 _ rfl
   refine blk_put (cs:=#[.float .f64 0,.float .f64 0,.float .f64 0,.float .f64 0,.float .f64 0,.float .f64 0,.float .f64 0,.float .f64 0]) ?_ 4 _ rfl
   refine blk_put (cs:=#[.float .f64 0,.float .f64 0,.float .f64 0,.float .f64 0,.float .f64 0,.float .f64 0,.float .f64 0,.float .f64 0]) ?_ 3 _ rfl
   refine blk_put (cs:=#[.float .f64 0,.float .f64 0,.float .f64 0,.float .f64 0,.float .f64 0,.float .f64 0,.float .f64 0,.float .f64 0]) ?_ 2 _ rfl
   refine blk_put (cs:=#[.float .f64 0,.float .f64 0,.float .f64 0,.float .f64 0,.float .f64 0,.float .f64 0,.float .f64 0,.float .f64 0]) ?_ 1 _ rfl
   refine blk_put (cs:=#[.float .f64 0,.float .f64 0,.float .f64 0,.float .f64 0,.float .f64 0,.float .f64 0,.float .f64 0,.float .f64 0]) ?_ 0 _ rfl
   exact R1.out) Try.underlying45 rfl (by kernel_rfl)) rfl ?_
  exact ⟨(0,0),(0,0),(0,0),(0,0),rfl,rfl,below_set (below_set (below_set (below_set (below_set (below_set (below_set (below_set (B1.out) (Nat.le_refl _)) (Nat.le_refl _)) (Nat.le_refl _)) (Nat.le_refl _)) (Nat.le_refl _)) (Nat.le_refl _)) (Nat.le_refl _)) (Nat.le_refl _)⟩
end Go.Proofs.Ytijmdmnhbbcahaa.PTallyTones
