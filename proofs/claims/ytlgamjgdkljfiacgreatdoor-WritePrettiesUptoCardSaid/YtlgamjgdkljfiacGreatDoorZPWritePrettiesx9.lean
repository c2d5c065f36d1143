-- Written by shrink.py, a program of this session: what the law needs of the print and its words. Lean checks it.
import Derived.Test.YtlgamjgdkljfiacGreatDoorZPWritePrettiesx0
import Derived.Test.YtlgamjgdkljfiacGreatDoorZPWritePrettiesx6
import Derived.Test.YtlgamjgdkljfiacGreatDoorZPWritePrettiesx8
import Derived.ScopeJumps
import Derived.WalkMore
import Derived.Lib.Strings
import Derived.Lib.Bytealg
import Derived.Laws.Append
import Derived.Laws.AppendOwn
import Derived.Lib.OthersKept
import Derived.Deep.QuietTactic
import Derived.BigQuiet
namespace Go.Proofs.YtlgamjgdkljfiacGreatDoor.PWritePretties
open Go.RowKit Go.Proofs.YtlgamjgdkljfiacGreatDoorW.PrintWords Go.Proofs.YtlgamjgdkljfiacGreatDoorW.PrintLast Go.Proofs.YtlgamjgdkljfiacGreatDoorW.PrintMore
attribute [local go_sem] max2_int min2_int max_two min_two max_three min_three max_four min_four
set_option linter.unusedVariables false
set_option linter.unusedSimpArgs false
def rdBd (o : RdOut) : Prop:=-36028797018963968 ≤ o.2.2.2.1 ∧ o.2.2.2.1 ≤ 36028797018963968
theorem rdE_bd (e : Int) (x : UInt8) (hx : rdD x = true) (h0 : 0 ≤ e) (h1 : e ≤ 11258999068426249) : 0 ≤ rdE e x ∧ rdE e x ≤ 11258999068426249:=by
 unfold rdD at hx
 have hx:=of_decide_eq_true hx
 unfold rdE
 split
 ·omega
 omega
theorem rdTens_bd : ∀ (l : List UInt8) (e : Int) (x : UInt8),rdD x = true → 0 ≤ e → e ≤ 11258999068426249 → 0 ≤ (rdTens l e x).1 ∧ (rdTens l e x).1 ≤ 11258999068426249
 | [],e,x,hx,h0,h1=>rdE_bd e x hx h0 h1
 | c :: r,e,x,hx,h0,h1=>by
  have h:=rdE_bd e x hx h0 h1;rw [rdTens]
  split
  ·exact rdTens_bd r _ c (by assumption) h.1 h.2
  exact h
theorem rdBd0 (a : Bool) (b : List UInt8) (c : Nat) (d : List UInt8) : rdBd (a,b,c,0,d):=⟨by show (-36028797018963968 : Int) ≤ 0;omega,by show (0 : Int) ≤ 36028797018963968;omega⟩
theorem rdPow_bd (l all : List UInt8) (down : Nat) (t : Bool) : rdBd (rdPow l all down t):=by
 unfold rdPow
 split
 ·exact rdBd0 _ _ _ _
 split
 ·rename_i d r hd
  have h:=rdTens_bd r 0 d hd (by omega) (by omega)
  unfold rdBd
  show -36028797018963968 ≤ (if t = true then - (rdTens r 0 d).1 else (rdTens r 0 d).1) ∧ (if t = true then - (rdTens r 0 d).1 else (rdTens r 0 d).1) ≤ 36028797018963968
  split <;> omega
 exact rdBd0 _ _ _ _
theorem rdExp_bd (l all : List UInt8) (down : Nat) : rdBd (rdExp l all down):=by
 unfold rdExp
 repeat' split
 all_goals first|exact rdBd0 _ _ _ _|exact rdPow_bd _ _ _ _
theorem rdBelow_bd : ∀ (l all : List UInt8) (down : Nat) (x : UInt8),rdBd (rdBelow l all down x)
 | [],all,down,x=>rdExp_bd _ _ _
 | c :: r,all,down,x=>by
  rw [rdBelow]
  split
  ·exact rdBelow_bd r _ _ _
  exact rdExp_bd _ _ _
theorem rdPoint_bd (l all : List UInt8) : rdBd (rdPoint l all):=by
 unfold rdPoint
 repeat' split
 all_goals first|exact rdBd0 _ _ _ _|exact rdExp_bd _ _ _|exact rdBelow_bd _ _ _ _
theorem rdWhole_bd : ∀ (l all : List UInt8),rdBd (rdWhole l all)
 | [],all=>rdPoint_bd _ _
 | c :: r,all=>by
  rw [rdWhole]
  split
  ·exact rdWhole_bd r _
  exact rdPoint_bd _ _
theorem rdAll_bd (l : List UInt8) : rdBd (rdAll l).2:=by
 have hf : ∀ l,rdBd (rdFirst l):=by
  intro l
  unfold rdFirst
  repeat' split
  all_goals first|exact rdBd0 _ _ _ _|exact rdPoint_bd _ _|exact rdWhole_bd _ _
 unfold rdAll
 split
 ·exact hf _
 split
 ·exact hf _
 exact hf _
theorem decOut_yes (s : ByteArray) (neg : Bool) (all : List UInt8) (down : Nat) (exp : Int) (left : List UInt8) (q1 : Bool) (q2 : ByteArray) (q3 : Int) (h : numV neg all down exp = (q1,q2,q3,true)) : decOut s neg (true,all,down,exp,left) = (q1,q2,q3,(s.size : Int) - (left.length : Int),0):=by
 unfold numV at h
 unfold decOut
 simp only;rw [if_neg (by decide)]
 by_cases hb : rdBody all = []
 ·rw [if_pos hb] at h ⊢
  simp only [Prod.mk.injEq] at h
  obtain ⟨rfl,rfl,rfl,_⟩:=h;rfl
 rw [if_neg hb] at h ⊢
 by_cases he : exp - down + ((rdLead all).length : Int) - ((rdBody all).length : Int) > 1073741824 ∨ exp - down + ((rdLead all).length : Int) - ((rdBody all).length : Int) < -1073741824
 ·rw [if_pos he] at h
  simp at h
 rw [if_neg he] at h ⊢
 simp only [Prod.mk.injEq] at h
 obtain ⟨rfl,rfl,rfl,_⟩:=h;rfl
theorem decOut_no (s : ByteArray) (neg : Bool) (all : List UInt8) (down : Nat) (exp : Int) (left : List UInt8) (q1 : Bool) (q2 : ByteArray) (q3 : Int) (h : numV neg all down exp = (q1,q2,q3,false)) : decOut s neg (true,all,down,exp,left) = (false,⟨#[]⟩,0,(s.size : Int) - (left.length : Int),111):=by
 unfold numV at h
 unfold decOut
 simp only;rw [if_neg (by decide)]
 by_cases hb : rdBody all = []
 ·rw [if_pos hb] at h
  simp at h
 rw [if_neg hb] at h ⊢
 by_cases he : exp - down + ((rdLead all).length : Int) - ((rdBody all).length : Int) > 1073741824 ∨ exp - down + ((rdLead all).length : Int) - ((rdBody all).length : Int) < -1073741824
 ·rw [if_pos he]
 rw [if_neg he] at h
 simp at h
theorem decOut_bad (s : ByteArray) (neg : Bool) (o : List UInt8 × Nat × Int × List UInt8) : decOut s neg (false,o) = (false,⟨#[]⟩,0,(s.size : Int) - (o.2.2.2.length : Int),110):=by
 unfold decOut
 simp
theorem rd_read_to (g : Nat) (s : ByteArray) (n : Nat) (w : World) (hs : s.size ≤ 1099511627776) (hn : n ≤ s.size) (neg ok : Bool) (all : List UInt8) (down : Nat) (exp : Int) (left : List UInt8) (ho : rdAll (s.data.toList.drop n) = (neg,ok,all,down,exp,left)) (hg : g < w.heap.size) (h : RdAt w g s n false (.slice none 0 0) 0 0) :
  Calls Tryz.prog 75 #[.pointer (some ⟨g,0,none⟩)] w fun e w'=>∃ (n' : Nat) (v : Value),e = .returned (.bool ok) ∧ n' ≤ s.size ∧ all.length ≤ n' ∧ down ≤ n' ∧ RdB g s w w' n' neg v all down exp ∧ left.length = s.size - n':=by
 refine (rd_read g s n w hs hn hg _ rfl h).mono (fun e w' hq=>?_)
 rw [ho] at hq
 obtain ⟨n',he,hS,hl⟩:=hq;obtain ⟨hle,hr,v,hB⟩:=hS;refine ⟨n',v,he,hle,by have:=hr.1;omega,by have:=hr.2;omega,hB,?_⟩;have h2 : left = s.data.toList.drop n':=hl.symm;rw [h2,List.length_drop,data_length]
theorem rd_number_to (g : Nat) (s : ByteArray) (w0 W : World) (n : Nat) (neg : Bool) (v : Value) (all : List UInt8) (down : Nat) (exp : Int) (q1 : Bool) (q2 : ByteArray) (q3 : Int) (q4 : Bool) (hq : numV neg all down exp = (q1,q2,q3,q4)) (h : RdB g s w0 W n neg v all down exp) (ha : all.length ≤ 1099511627776) (hd0 : (0 : Int) ≤ down) (hd1 : (down : Int) ≤ 1099511627776) (he0 : -36028797018963968 ≤ exp) (he1 : exp ≤ 36028797018963968) :
  Calls Tryz.prog 76 #[.pointer (some ⟨g,0,none⟩)] W fun e w'=>e = .returned (.tuple #[.agg #[.bool q1,.string q2,.int .i64 q3],.bool q4]) ∧ Below W.heap.size W w':=by
 refine (rd_number g s w0 W n neg v all down exp h ha hd0 hd1 he0 he1).mono (fun e w' hp=>?_)
 rw [hq] at hp
 exact hp
theorem after_number {w W0 w1 w2 : World} {a0 : ByteArray} {n1 : Nat} {neg : Bool} {v1 : Value} {all : List UInt8} {down exp : Int} (hold : ∀ w1,Below (w.heap.size + 1) W0 w1 → w1.heap[w.heap.size]? = some (.cells #[.bool false,.string ⟨#[]⟩,.int .i64 0] 81 (0,0)) ∧ Below w.heap.size w w1)
  (hB : RdB (w.heap.size + 1) a0 W0 w1 n1 neg v1 all down exp) (hb : Below w1.heap.size w1 w2) :
  w2.heap[w.heap.size]? = some (.cells #[.bool false,.string ⟨#[]⟩,.int .i64 0] 81 (0,0)) ∧ Aside0 (Below w.heap.size w w2) ∧ w2.cell? ⟨w.heap.size + 1,0,none⟩ = some (.string a0) ∧ w2.cell? ⟨w.heap.size + 1,1,none⟩ = some (.int .i64 n1) ∧ w2.cell? ⟨w.heap.size + 1,2,none⟩ = some (.bool neg) ∧ w2.cell? ⟨w.heap.size + 1,3,none⟩ = some v1 ∧ w2.cell? ⟨w.heap.size + 1,4,none⟩ = some (.int .i64 down) ∧ w2.cell? ⟨w.heap.size + 1,5,none⟩ = some (.int .i64 exp) ∧ ∀ j,w2.frozen? ⟨w.heap.size + 1,j,none⟩ = false:=by
 obtain ⟨h1,h2⟩:=hold _ hB.below;have hlt:=hB.lt;refine ⟨(hb.block _ (by omega)).trans h1,⟨h2.trans (hb.mono (by omega))⟩,?_⟩;exact RdAt.cells (show RdAt w2 (w.heap.size + 1) a0 n1 neg v1 down exp from (hb.block _ (by omega)).trans hB.blk)
set_option maxHeartbeats 4000000 in
set_option maxRecDepth 100000 in
theorem decimal_Read.calls (a0 : ByteArray) (a1 : Int) (r1 : Bool) (r2 : ByteArray) (r3 : Int) (r4 : Int) (r5 : Int) (w : World) (h : decimal_Read.f a0 a1 = some (r1,r2,r3,r4,r5)) :
  Calls Tryz.prog 59 #[.string a0,.int .i64 a1] w fun e w'=>e = .returned (.tuple #[.agg #[.bool r1,.string r2,.int .i64 r3],.int .i64 r4,.int .i64 r5]) ∧ Below w.heap.size w w':=by
 unfold decimal_Read.f at h
 by_cases hs : a0.size ≤ 1099511627776
 ·rw [if_pos hs] at h
  injection h with h
  by_cases hr : a1 < 0 ∨ a1 > (a0.size : Int)
  ·have hv : decV a0 a1 = (false,⟨#[]⟩,0,0,2):=by unfold decV;rw [if_pos hr]
   obtain ⟨rfl,rfl,rfl,rfl,rfl⟩ : r1 = false ∧ r2 = ⟨#[]⟩ ∧ r3 = 0 ∧ r4 = 0 ∧ r5 = 2:=by
    rw [hv] at h
    simp only [Prod.mk.injEq] at h
    obtain ⟨h1,h2,h3,h4,h5⟩:=h;exact ⟨h1.symm,h2.symm,h3.symm,h4.symm,h5.symm⟩
   clear h hv
   rcases hr with hr|hr
   all_goals
    go_enter Tryz.func59,Tryz.ntmps59
    go_wp2_with fail
    refine bodyPost_ret (results_ctt rfl _ _ w.heap.size 81 _ (0,0) _ rfl (heap_alloc_new w _) Tryz.underlying81 rfl (by kernel_rfl)) rfl ?_;exact ⟨rfl,(Below.refl _ _).alloc (Nat.le_refl _) _⟩
  obtain ⟨n,rfl⟩ : ∃ n : Nat,a1 = n:=⟨a1.toNat,by omega⟩
  have hn : n ≤ a0.size:=by omega
  have hv : decV a0 (n : Int) = decOut a0 (rdAll (a0.data.toList.drop n)).1 (rdAll (a0.data.toList.drop n)).2:=by unfold decV;rw [if_neg hr,Int.toNat_natCast]
  have hbd:=rdAll_bd (a0.data.toList.drop n);have hv:=hv.symm.trans h;clear h
  generalize hout : rdAll (a0.data.toList.drop n) = no at hv hbd
  obtain ⟨neg,ok,all,down,exp,left⟩:=no
  unfold rdBd at hbd
  simp only at hbd
  have HV:=Aside0.mk hv;have HO:=Aside0.mk hout;clear hv hout
  have hr1 : ¬ (n : Int) < 0:=by omega
  have hr2 : ¬ (n : Int) > (a0.size : Int):=by omega
  clear hr
  have hat : RdAt ((w.alloc (Obj.cells #[.bool false,.string ⟨#[]⟩,.int .i64 0] 81)).alloc (Obj.cells #[.string a0,.int .i64 n,.bool false,.slice none 0 0,.int .i64 0,.int .i64 0] 115)) (w.heap.size + 1) a0 n false (.slice none 0 0) 0 0:=by
   have:=heap_alloc_new (w.alloc (Obj.cells #[.bool false,.string ⟨#[]⟩,.int .i64 0] 81)) (Obj.cells #[.string a0,.int .i64 n,.bool false,.slice none 0 0,.int .i64 0,.int .i64 0] 115)
   rw [World.size_alloc] at this
   exact this
  have hold : ∀ w1,Below (w.heap.size + 1) ((w.alloc (Obj.cells #[.bool false,.string ⟨#[]⟩,.int .i64 0] 81)).alloc (Obj.cells #[.string a0,.int .i64 n,.bool false,.slice none 0 0,.int .i64 0,.int .i64 0] 115)) w1 → w1.heap[w.heap.size]? = some (.cells #[.bool false,.string ⟨#[]⟩,.int .i64 0] 81 (0,0)) ∧ Below w.heap.size w w1:=by
   intro w1 hb;have h0 : Below w.heap.size w ((w.alloc (Obj.cells #[.bool false,.string ⟨#[]⟩,.int .i64 0] 81)).alloc (Obj.cells #[.string a0,.int .i64 n,.bool false,.slice none 0 0,.int .i64 0,.int .i64 0] 115)):=((Below.refl _ _).alloc (Nat.le_refl _) _).alloc (by simp) _;refine ⟨(hb.block w.heap.size (by omega)).trans ?_,h0.trans (hb.mono (by omega))⟩;have h1 : Below (w.heap.size + 1) (w.alloc (Obj.cells #[.bool false,.string ⟨#[]⟩,.int .i64 0] 81)) ((w.alloc (Obj.cells #[.bool false,.string ⟨#[]⟩,.int .i64 0] 81)).alloc (Obj.cells #[.string a0,.int .i64 n,.bool false,.slice none 0 0,.int .i64 0,.int .i64 0] 115)):=(Below.refl _ _).alloc (by simp) _;exact (h1.block w.heap.size (by omega)).trans (heap_alloc_new w _)
  have HAT:=Aside0.mk hat;have HOLD:=Aside0.mk hold;clear hat hold
  cases ok with
  | false =>
   go_enter Tryz.func59,Tryz.ntmps59
   go_wp2_with (go_at_call 75;refine (rd_read_to (w.heap.size + 1) a0 n _ hs hn neg false all down exp left HO.out (by simp) HAT.out).mono ?_;rintro e w1 ⟨n1,v1,rfl,hn1,ha1,hdn1,hB1,hl1⟩;obtain ⟨hgd,hbw⟩:=HOLD.out _ hB1.below;have HBW:=Aside0.mk hbw;clear hbw;obtain ⟨c0,c1,c2,c3,c4,c5,fz⟩:=hB1.blk.cells;have HB1:=Aside0.mk hB1;clear hB1;have z0:=blk_cell hgd 0;have z1:=blk_cell hgd 1;have z2:=blk_cell hgd 2;have zf0:=blk_frozen hgd 0;have zf1:=blk_frozen hgd 1;have zf2:=blk_frozen hgd 2)
   go_region
   go_wp2
   refine bodyPost_ret (results_ctt rfl _ _ w.heap.size 81 _ (0,0) _ rfl (set3_blk (by exact hgd)) Tryz.underlying81 rfl (by kernel_rfl)) rfl ?_;have hv:=HV.out
   rw [decOut_bad] at hv
   simp only [Prod.mk.injEq] at hv
   obtain ⟨rfl,rfl,rfl,rfl,rfl⟩:=hv
   have e1 : (a0.size : Int) - (left.length : Int) = (n1 : Int):=by omega
   rw [e1];exact ⟨rfl,below_drew (below_set (below_set (below_set HBW.out (Nat.le_refl _)) (Nat.le_refl _)) (Nat.le_refl _))⟩
  | true =>
   generalize hnv : numV neg all down exp = nv
   obtain ⟨q1,q2,q3,q4⟩:=nv;have HNV:=Aside0.mk hnv;clear hnv
   cases q4 with
   | true =>
    go_enter Tryz.func59,Tryz.ntmps59
    go_wp2_with (first|(go_at_call 75;refine (rd_read_to (w.heap.size + 1) a0 n _ hs hn neg true all down exp left HO.out (by simp) HAT.out).mono ?_;rintro e w1 ⟨n1,v1,rfl,hn1,ha1,hdn1,hB1,hl1⟩;have HB1:=Aside0.mk hB1;clear hB1)|(go_at_call 76;refine (rd_number_to (w.heap.size + 1) a0 _ w1 n1 neg v1 all down exp _ _ _ _ HNV.out HB1.out (by omega) (by omega) (by omega) hbd.1 hbd.2).mono ?_;rintro e w2 ⟨rfl,hb2⟩;obtain ⟨hgd,HBW2,d0,d1,d2,d3,d4,d5,df⟩:=after_number HOLD.out HB1.out hb2;clear hb2;have z0:=blk_cell hgd 0;have z1:=blk_cell hgd 1;have z2:=blk_cell hgd 2;have zf0:=blk_frozen hgd 0;have zf1:=blk_frozen hgd 1;have zf2:=blk_frozen hgd 2))
    obtain ⟨w3,hw3⟩ : ∃ w3,w3 = ((w2.setCell ⟨w.heap.size,0,none⟩ (.bool q1)).setCell ⟨w.heap.size,1,none⟩ (.string q2)).setCell ⟨w.heap.size,2,none⟩ (.int .i64 q3):=⟨_,rfl⟩
    rw [← hw3];have HBW3 : Aside0 (Below w.heap.size w w3):=⟨by rw [hw3];exact below_set (below_set (below_set HBW2.out (Nat.le_refl _)) (Nat.le_refl _)) (Nat.le_refl _)⟩
    have hg3 : w3.heap[w.heap.size]? = some (.cells #[.bool q1,.string q2,.int .i64 q3] 81 (0,0)):=by rw [hw3];exact set3_blk hgd
    have d13 : w3.cell? ⟨w.heap.size + 1,1,none⟩ = some (.int .i64 n1):=by rw [hw3];go_simp
    clear z0 z1 z2 zf0 zf1 zf2 d0 d1 d2 d3 d4 d5 df hgd hw3 HBW2;have z0:=blk_cell hg3 0;have z1:=blk_cell hg3 1;have z2:=blk_cell hg3 2;have zf0:=blk_frozen hg3 0;have zf1:=blk_frozen hg3 1;have zf2:=blk_frozen hg3 2
    go_region
    go_wp2
    refine bodyPost_ret (results_ctt rfl _ _ w.heap.size 81 _ (0,0) _ rfl (set3_blk (by exact hg3)) Tryz.underlying81 rfl (by kernel_rfl)) rfl ?_;have hv:=HV.out
    rw [decOut_yes _ _ _ _ _ _ _ _ _ HNV.out] at hv
    simp only [Prod.mk.injEq] at hv
    obtain ⟨rfl,rfl,rfl,rfl,rfl⟩:=hv
    have e1 : (a0.size : Int) - (left.length : Int) = (n1 : Int):=by omega
    rw [e1];exact ⟨rfl,below_drew (below_set (below_set (below_set HBW3.out (Nat.le_refl _)) (Nat.le_refl _)) (Nat.le_refl _))⟩
   | false =>
    go_enter Tryz.func59,Tryz.ntmps59
    go_wp2_with (first|(go_at_call 75;refine (rd_read_to (w.heap.size + 1) a0 n _ hs hn neg true all down exp left HO.out (by simp) HAT.out).mono ?_;rintro e w1 ⟨n1,v1,rfl,hn1,ha1,hdn1,hB1,hl1⟩;have HB1:=Aside0.mk hB1;clear hB1)|(go_at_call 76;refine (rd_number_to (w.heap.size + 1) a0 _ w1 n1 neg v1 all down exp _ _ _ _ HNV.out HB1.out (by omega) (by omega) (by omega) hbd.1 hbd.2).mono ?_;rintro e w2 ⟨rfl,hb2⟩;obtain ⟨hgd,HBW2,d0,d1,d2,d3,d4,d5,df⟩:=after_number HOLD.out HB1.out hb2;clear hb2;have z0:=blk_cell hgd 0;have z1:=blk_cell hgd 1;have z2:=blk_cell hgd 2;have zf0:=blk_frozen hgd 0;have zf1:=blk_frozen hgd 1;have zf2:=blk_frozen hgd 2))
    obtain ⟨w3,hw3⟩ : ∃ w3,w3 = ((w2.setCell ⟨w.heap.size,0,none⟩ (.bool q1)).setCell ⟨w.heap.size,1,none⟩ (.string q2)).setCell ⟨w.heap.size,2,none⟩ (.int .i64 q3):=⟨_,rfl⟩
    rw [← hw3];have HBW3 : Aside0 (Below w.heap.size w w3):=⟨by rw [hw3];exact below_set (below_set (below_set HBW2.out (Nat.le_refl _)) (Nat.le_refl _)) (Nat.le_refl _)⟩
    have hg3 : w3.heap[w.heap.size]? = some (.cells #[.bool q1,.string q2,.int .i64 q3] 81 (0,0)):=by rw [hw3];exact set3_blk hgd
    have d13 : w3.cell? ⟨w.heap.size + 1,1,none⟩ = some (.int .i64 n1):=by rw [hw3];go_simp
    clear z0 z1 z2 zf0 zf1 zf2 d0 d1 d2 d3 d4 d5 df hgd hw3 HBW2;have z0:=blk_cell hg3 0;have z1:=blk_cell hg3 1;have z2:=blk_cell hg3 2;have zf0:=blk_frozen hg3 0;have zf1:=blk_frozen hg3 1;have zf2:=blk_frozen hg3 2
    go_region
    go_wp2
    refine bodyPost_ret (results_ctt rfl _ _ w.heap.size 81 _ (0,0) _ rfl (set3_blk (by exact hg3)) Tryz.underlying81 rfl (by kernel_rfl)) rfl ?_;have hv:=HV.out
    rw [decOut_no _ _ _ _ _ _ _ _ _ HNV.out] at hv
    simp only [Prod.mk.injEq] at hv
    obtain ⟨rfl,rfl,rfl,rfl,rfl⟩:=hv
    have e1 : (a0.size : Int) - (left.length : Int) = (n1 : Int):=by omega
    rw [e1];exact ⟨rfl,below_drew (below_set (below_set (below_set HBW3.out (Nat.le_refl _)) (Nat.le_refl _)) (Nat.le_refl _))⟩
 rw [if_neg hs] at h
 exact absurd h (by simp)
end Go.Proofs.YtlgamjgdkljfiacGreatDoor.PWritePretties
