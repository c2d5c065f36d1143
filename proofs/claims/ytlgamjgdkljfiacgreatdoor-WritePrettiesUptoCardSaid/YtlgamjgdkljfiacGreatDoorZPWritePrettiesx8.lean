-- Written by shrink.py, a program of this session: what the law needs of the print and its words. Lean checks it.
import Derived.Test.YtlgamjgdkljfiacGreatDoorZPWritePrettiesx0
import Derived.Test.YtlgamjgdkljfiacGreatDoorZPWritePrettiesx6
import Derived.Test.YtlgamjgdkljfiacGreatDoorZPWritePrettiesx7
import Derived.ScopeJumps
import Derived.WalkMore
import Derived.Lib.Strings
import Derived.Lib.Bytealg
import Derived.Laws.Append
import Derived.Laws.AppendOwn
import Derived.Lib.OthersKept
import Derived.Deep.QuietTactic
import Derived.BigQuiet
namespace Go.Proofs.YtlgamjgdkljfiacGreatDoor.PWritePretties
open Go.RowKit Go.Proofs.YtlgamjgdkljfiacGreatDoorW.PrintWords Go.Proofs.YtlgamjgdkljfiacGreatDoorW.PrintLast Go.Proofs.YtlgamjgdkljfiacGreatDoorW.PrintMore
attribute [local go_sem] max2_int min2_int max_two min_two max_three min_three max_four min_four
set_option linter.unusedVariables false
set_option linter.unusedSimpArgs false
theorem rd_bt0 (c : UInt8) (r : List UInt8) : bt (⟨(c :: r).toArray⟩ : ByteArray) 0 = (c.toNat : Int):=by
 unfold bt
 rw [dif_pos (by simp [ByteArray.size])];rfl
theorem rd_szl (l : List UInt8) : (⟨l.toArray⟩ : ByteArray).size = l.length:=by simp [ByteArray.size]
theorem rd_trimL : ∀ l : List UInt8,Ev (fun k=>strings_trimLeftByte.l0 k (⟨l.toArray⟩ : ByteArray) 48) (⟨(rdLead l).toArray⟩ : ByteArray)
 | []=>by
  refine Ev.step (f:=fun _=>some (⟨[].toArray⟩ : ByteArray)) (fun k=>?_) (Ev.now _);rw [strings_trimLeftByte.l0,if_neg (by simp [ByteArray.size])]
 | c :: r=>by
  have hs : ((⟨(c :: r).toArray⟩ : ByteArray).size : Int) = (r.length : Int) + 1:=by rw [rd_szl];simp
  by_cases hc : c = 48
  ·have ih:=rd_trimL r
   have e : (⟨(c :: r).toArray⟩ : ByteArray).extract 1 (⟨(c :: r).toArray⟩ : ByteArray).size = ⟨r.toArray⟩:=by
    apply ByteArray.ext
    apply Array.ext'
    simp [ByteArray.size]
   have e2 : rdLead (c :: r) = rdLead r:=by subst hc;rfl
   rw [e2];refine Ev.step (fun k=>?_) ih;rw [strings_trimLeftByte.l0,if_pos (by omega),if_pos (by omega),rd_bt0,if_pos (by rw [hc];rfl),if_pos (by omega),e]
  have e2 : rdLead (c :: r) = c :: r:=by unfold rdLead;rw [List.dropWhile_cons];simp [hc]
  rw [e2];refine Ev.step (f:=fun _=>some (⟨(c :: r).toArray⟩ : ByteArray)) (fun k=>?_) (Ev.now _);rw [strings_trimLeftByte.l0,if_pos (by omega),if_pos (by omega),rd_bt0,if_neg (fun h=>hc (UInt8.toNat_inj.mp (by show c.toNat = 48;omega)))]
def rdTail (l : List UInt8) : List UInt8:=(l.reverse.dropWhile (· == 48)).reverse
theorem rdTail_snoc (l : List UInt8) (c : UInt8) : rdTail (l ++ [c]) = if c = 48 then rdTail l else l ++ [c]:=by
 unfold rdTail
 rw [List.reverse_append,List.reverse_singleton,List.singleton_append,List.dropWhile_cons]
 by_cases h : c = 48
 ·simp [h]
 simp [h]
theorem rd_btlast (l : List UInt8) (c : UInt8) : bt (⟨(l ++ [c]).toArray⟩ : ByteArray) (l.length : Int) = (c.toNat : Int):=by
 unfold bt
 rw [dif_pos (by simp [ByteArray.size])];simp only [Int.toNat_natCast]
 congr 1
 show ((l ++ [c]).toArray[l.length]'_).toNat = _
 simp
theorem rd_trimR : ∀ (n : Nat) (l : List UInt8),l.length = n → n ≤ 1099511627776 → Ev (fun k=>strings_trimRightByte.l0 k (⟨l.toArray⟩ : ByteArray) 48) (⟨(rdTail l).toArray⟩ : ByteArray)
 | 0,l,hl,_=>by
  obtain rfl:=List.eq_nil_of_length_eq_zero hl;refine Ev.step (f:=fun _=>some (⟨[].toArray⟩ : ByteArray)) (fun k=>?_) (Ev.now _);rw [strings_trimRightByte.l0,if_neg (by simp [ByteArray.size])]
 | n + 1,l,hl,hn=>by
  rcases List.eq_nil_or_concat l with rfl|⟨r,c,rfl⟩
  ·simp at hl
  have hr : r.length = n:=by simp at hl;exact hl
  have hs : ((⟨(r ++ [c]).toArray⟩ : ByteArray).size : Int) = (r.length : Int) + 1:=by rw [rd_szl];simp
  have hw : wrap64 (((⟨(r ++ [c]).toArray⟩ : ByteArray).size : Int) - 1) = (r.length : Int):=by rw [hs];unfold wrap64;omega
  rw [List.concat_eq_append,rdTail_snoc]
  by_cases hc : c = 48
  ·rw [if_pos hc];have ih:=rd_trimR n r hr (by omega)
   have e : (⟨(r ++ [c]).toArray⟩ : ByteArray).extract 0 r.length = ⟨r.toArray⟩:=by
    apply ByteArray.ext
    apply Array.ext'
    simp
   refine Ev.step (fun k=>?_) ih;rw [strings_trimRightByte.l0,hw,if_pos (by omega),if_pos (by omega),if_pos (by omega),rd_btlast,if_pos (by rw [hc];rfl),if_pos (by omega),Int.toNat_natCast,e]
  rw [if_neg hc];refine Ev.step (f:=fun _=>some (⟨(r ++ [c]).toArray⟩ : ByteArray)) (fun k=>?_) (Ev.now _);rw [strings_trimRightByte.l0,hw,if_pos (by omega),if_pos (by omega),if_pos (by omega),rd_btlast,if_neg (fun h=>hc (UInt8.toNat_inj.mp (by show c.toNat = 48;omega)))]
theorem rd_TrimLeft (l : List UInt8) : Ev (fun k=>strings_TrimLeft.f k (⟨l.toArray⟩ : ByteArray) ⟨#[48]⟩) (⟨(rdLead l).toArray⟩ : ByteArray):=by
 have hb : bt (⟨#[48]⟩ : ByteArray) 0 = 48:=rd_bt0 48 []
 have ht : ((⟨#[48]⟩ : ByteArray).toList == ([] : List UInt8)) = false:=by rw [ByteArray.toList_eq];rfl
 have hz : ((⟨#[48]⟩ : ByteArray).size : Int) = 1:=rfl
 by_cases h : l = []
 ·subst h;refine Ev.congr (f:=fun k=>strings_TrimLeft.j0 k (⟨[].toArray⟩ : ByteArray) ⟨#[48]⟩ true) (fun k=>?_) (Ev.step (f:=fun _=>some (⟨[].toArray⟩ : ByteArray)) (fun k=>?_) (Ev.now _))
  ·unfold strings_TrimLeft.f;rw [if_pos (by rw [ByteArray.toList_eq])]
  rw [strings_TrimLeft.j0,if_pos rfl]
 refine Ev.congr (f:=fun k=>strings_TrimLeft.j0 k (⟨l.toArray⟩ : ByteArray) ⟨#[48]⟩ false) (fun k=>?_) (Ev.step (f:=fun k=>strings_TrimLeft.j1 k (⟨l.toArray⟩ : ByteArray) ⟨#[48]⟩ true) (fun k=>?_) (Ev.step (fun k=>?_) (Ev.bind (f:=fun _ t=>some t) (rd_trimL l) (Ev.now _))))
 ·unfold strings_TrimLeft.f;rw [if_neg (by rw [ByteArray.toList_eq];exact h),ht]
 ·rw [strings_TrimLeft.j0,if_neg (by decide),hz,if_pos rfl,if_pos (by decide),hb];rfl
 rw [strings_TrimLeft.j1,if_pos rfl,hz,if_pos (by decide),hb];rfl
theorem rd_TrimRight (l : List UInt8) (hl : l.length ≤ 1099511627776) : Ev (fun k=>strings_TrimRight.f k (⟨l.toArray⟩ : ByteArray) ⟨#[48]⟩) (⟨(rdTail l).toArray⟩ : ByteArray):=by
 have hb : bt (⟨#[48]⟩ : ByteArray) 0 = 48:=rd_bt0 48 []
 have ht : ((⟨#[48]⟩ : ByteArray).toList == ([] : List UInt8)) = false:=by rw [ByteArray.toList_eq];rfl
 have hz : ((⟨#[48]⟩ : ByteArray).size : Int) = 1:=rfl
 by_cases h : l = []
 ·subst h;refine Ev.congr (f:=fun k=>strings_TrimRight.j0 k (⟨[].toArray⟩ : ByteArray) ⟨#[48]⟩ true) (fun k=>?_) (Ev.step (f:=fun _=>some (⟨[].toArray⟩ : ByteArray)) (fun k=>?_) (Ev.now _))
  ·unfold strings_TrimRight.f;rw [if_pos (by rw [ByteArray.toList_eq])]
  rw [strings_TrimRight.j0,if_pos rfl]
 refine Ev.congr (f:=fun k=>strings_TrimRight.j0 k (⟨l.toArray⟩ : ByteArray) ⟨#[48]⟩ false) (fun k=>?_) (Ev.step (f:=fun k=>strings_TrimRight.j1 k (⟨l.toArray⟩ : ByteArray) ⟨#[48]⟩ true) (fun k=>?_) (Ev.step (fun k=>?_) (Ev.bind (f:=fun _ t=>some t) (rd_trimR l.length l rfl hl) (Ev.now _))))
 ·unfold strings_TrimRight.f;rw [if_neg (by rw [ByteArray.toList_eq];exact h),ht]
 ·rw [strings_TrimRight.j0,if_neg (by decide),hz,if_pos rfl,if_pos (by decide),hb];rfl
 rw [strings_TrimRight.j1,if_pos rfl,hz,if_pos (by decide),hb];rfl
theorem set3_blk {W : World} {g : Nat} {a b c x y z : Value} {t : Nat} (h : W.heap[g]? = some (.cells #[a,b,c] t (0,0))) : (((W.setCell ⟨g,0,none⟩ x).setCell ⟨g,1,none⟩ y).setCell ⟨g,2,none⟩ z).heap[g]? = some (.cells #[x,y,z] t (0,0)):=by simpa using blk_set (blk_set (blk_set h 0 x) 1 y) 2 z
def numV (neg : Bool) (all : List UInt8) (down exp : Int) : Bool × ByteArray × Int × Bool :=
 if rdBody all = [] then (neg,⟨#[]⟩,0,true)
 else if exp - down + ((rdLead all).length : Int) - ((rdBody all).length : Int) > 1073741824 ∨ exp - down + ((rdLead all).length : Int) - ((rdBody all).length : Int) < -1073741824 then (false,⟨#[]⟩,0,false)
 else (neg,⟨(rdBody all).toArray⟩,exp - down + ((rdLead all).length : Int) - ((rdBody all).length : Int),true)
set_option maxHeartbeats 4000000 in
set_option maxRecDepth 100000 in
theorem rd_number (g : Nat) (s : ByteArray) (w0 W : World) (n : Nat) (neg : Bool) (v : Value) (all : List UInt8) (down exp : Int) (h : RdB g s w0 W n neg v all down exp) (ha : all.length ≤ 1099511627776) (hd0 : 0 ≤ down) (hd1 : down ≤ 1099511627776) (he0 : -36028797018963968 ≤ exp) (he1 : exp ≤ 36028797018963968) :
  Calls Tryz.prog 76 #[.pointer (some ⟨g,0,none⟩)] W fun e w'=>e = .returned (.tuple #[.agg #[.bool (numV neg all down exp).1,.string (numV neg all down exp).2.1,.int .i64 (numV neg all down exp).2.2.1],.bool (numV neg all down exp).2.2.2]) ∧ Below W.heap.size W w':=by
 obtain ⟨kL,hL⟩:=Ev.rounds (rd_TrimLeft all)
 have hll : (rdLead all).length ≤ all.length:=by unfold rdLead;exact (List.dropWhile_suffix _).length_le
 obtain ⟨kR,hR⟩:=Ev.rounds (rd_TrimRight (rdLead all) (by omega))
 have hbl : (rdBody all).length ≤ (rdLead all).length:=by
  show (rdTail (rdLead all)).length ≤ _
  unfold rdTail
  rw [List.length_reverse];have:=(List.dropWhile_suffix (· == 48) (l:=(rdLead all).reverse)).length_le
  rw [List.length_reverse] at this
  exact this
 have hR' : strings_TrimRight.f kR (⟨(rdLead all).toArray⟩ : ByteArray) ⟨#[48]⟩ = some (⟨(rdBody all).toArray⟩ : ByteArray):=hR;obtain ⟨A,cc,rfl⟩:=Kd.R_slice h.row
 have hcv : (convert 43 9 (.slice A (rd_ints all).length cc)).run Tryz.prog (W.alloc (Obj.cells #[.bool false,.string ⟨#[]⟩,.int .i64 0] 81)) = .ok (.string (⟨all.toArray⟩ : ByteArray)) (W.alloc (Obj.cells #[.bool false,.string ⟨#[]⟩,.int .i64 0] 81)):=by
  have e : strOfNums (rd_ints all) = ⟨all.toArray⟩:=by
   unfold strOfNums rd_ints
   congr 2
   rw [List.map_map]
   conv=>rhs;rw [← List.map_id all]
   apply List.map_congr_left
   intro b _
   simp
  rw [← e];exact own_string Tryz.underlying43 Tryz.underlying5 Tryz.underlying9 (Kd.own_of_R (Kd.R_alloc h.row _))
 obtain ⟨c0,c1,c2,c3,c4,c5,fz⟩:=h.blk.cells;have HB0:=Aside0.mk h;have hlt:=h.lt;clear h hR;have sL : (⟨(rdLead all).toArray⟩ : ByteArray).size = (rdLead all).length:=rd_szl _;have sB : (⟨(rdBody all).toArray⟩ : ByteArray).size = (rdBody all).length:=rd_szl _
 have hk : ∀ w1 w2,Below (W.alloc (Obj.cells #[.bool false,.string ⟨#[]⟩,.int .i64 0] 81)).heap.size (W.alloc (Obj.cells #[.bool false,.string ⟨#[]⟩,.int .i64 0] 81)) w1 → Below w1.heap.size w1 w2 → RdAt w2 g s n neg (.slice A (rd_ints all).length cc) down exp ∧ w2.heap[W.heap.size]? = some (.cells #[.bool false,.string ⟨#[]⟩,.int .i64 0] 81 (0,0)) ∧ Below W.heap.size W w2:=by
  intro w1 w2 b1 b2
  have hz : (W.alloc (Obj.cells #[.bool false,.string ⟨#[]⟩,.int .i64 0] 81)).heap.size = W.heap.size + 1:=by unfold World.alloc;exact Array.size_push _
  have b0 : Below W.heap.size W (W.alloc (Obj.cells #[.bool false,.string ⟨#[]⟩,.int .i64 0] 81)):=(Below.refl _ _).alloc (Nat.le_refl _) _;have h1:=b1.size;refine ⟨?_,?_,?_⟩
  ·exact (b2.block g (by omega)).trans ((b1.block g (by omega)).trans ((b0.block g hlt).trans HB0.out.blk))
  ·exact (b2.block _ (by omega)).trans ((b1.block _ (by omega)).trans (heap_alloc_new W _))
  exact below_then (below_then b0 (by omega) b1) (by omega) b2
 have HK:=Aside0.mk hk;clear hk;go_enter Tryz.func76,Tryz.ntmps76
 go_wp2_with (go_at_call 97;refine (strings_TrimLeft.calls kL _ _ _ _ hL).mono ?_;rintro e w1 ⟨rfl,hb1⟩;have HL1:=Aside0.mk hb1;clear hb1 hL)
 go_wp2_with (go_at_call 98;refine (strings_TrimRight.calls kR _ _ _ _ hR').mono ?_;rintro e w2 ⟨rfl,hb2⟩;have HL2:=Aside0.mk hb2;clear hb2 hR' hcv c0 c1 c2 c3 c4 c5 fz;obtain ⟨hg2,hgd,hbw⟩:=HK.out _ _ HL1.out HL2.out;have HBW:=Aside0.mk hbw;clear hbw;obtain ⟨c0,c1,c2,c3,c4,c5,fz⟩:=hg2.cells;have z0:=blk_cell hgd 0;have z1:=blk_cell hgd 1;have z2:=blk_cell hgd 2;have zf0:=blk_frozen hgd 0;have zf1:=blk_frozen hgd 1;have zf2:=blk_frozen hgd 2)
 by_cases hbody : rdBody all = []
 ·have hs2 : (rdBody all).isEmpty = true:=by rw [hbody];rfl
  have hv : numV neg all down exp = (neg,⟨#[]⟩,0,true):=by unfold numV;rw [if_pos hbody]
  have HV:=Aside0.mk hv;clear hv
  go_quiet (fail)
  go_wp2
  refine bodyPost_ret (results_ct rfl _ _ W.heap.size 81 _ (0,0) _ rfl (set3_blk (by exact hgd)) Tryz.underlying81 rfl (by kernel_rfl)) rfl ?_;rw [HV.out];exact ⟨rfl,below_set (below_set (below_set (pw_below_drewN HBW.out _) (Nat.le_refl _)) (Nat.le_refl _)) (Nat.le_refl _)⟩
 have hs2 : (rdBody all).isEmpty = false:=by cases h : rdBody all with|nil=>exact absurd h hbody|cons a b=>rfl
 by_cases hE : exp - down + ((rdLead all).length : Int) - ((rdBody all).length : Int) > 1073741824
 ·have hv : numV neg all down exp = (false,⟨#[]⟩,0,false):=by unfold numV;rw [if_neg hbody,if_pos (.inl hE)]
  have HV:=Aside0.mk hv;clear hv
  go_quiet (fail)
  go_wp2
  refine bodyPost_ret (results_ct rfl _ _ W.heap.size 81 _ (0,0) _ rfl (set3_blk (by exact hgd)) Tryz.underlying81 rfl (by kernel_rfl)) rfl ?_;rw [HV.out];exact ⟨rfl,below_set (below_set (below_set (pw_below_drewN HBW.out _) (Nat.le_refl _)) (Nat.le_refl _)) (Nat.le_refl _)⟩
 by_cases hE2 : exp - down + ((rdLead all).length : Int) - ((rdBody all).length : Int) < -1073741824
 ·have hv : numV neg all down exp = (false,⟨#[]⟩,0,false):=by unfold numV;rw [if_neg hbody,if_pos (.inr hE2)]
  have HV:=Aside0.mk hv;clear hv
  go_quiet (fail)
  go_wp2
  refine bodyPost_ret (results_ct rfl _ _ W.heap.size 81 _ (0,0) _ rfl (set3_blk (by exact hgd)) Tryz.underlying81 rfl (by kernel_rfl)) rfl ?_;rw [HV.out];exact ⟨rfl,below_set (below_set (below_set (pw_below_drewN HBW.out _) (Nat.le_refl _)) (Nat.le_refl _)) (Nat.le_refl _)⟩
 have hv : numV neg all down exp = (neg,⟨(rdBody all).toArray⟩,exp - down + ((rdLead all).length : Int) - ((rdBody all).length : Int),true):=by unfold numV;rw [if_neg hbody,if_neg (fun h=>h.elim hE hE2)]
 have HV:=Aside0.mk hv;clear hv
 go_quiet (fail)
 go_wp2
 refine bodyPost_ret (results_ct rfl _ _ W.heap.size 81 _ (0,0) _ rfl (set3_blk (by exact hgd)) Tryz.underlying81 rfl (by kernel_rfl)) rfl ?_;rw [HV.out];exact ⟨rfl,below_set (below_set (below_set (pw_below_drewN HBW.out _) (Nat.le_refl _)) (Nat.le_refl _)) (Nat.le_refl _)⟩
end Go.Proofs.YtlgamjgdkljfiacGreatDoor.PWritePretties
