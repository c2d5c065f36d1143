-- Written by shrink.py, a program of this session: what the law needs of the print and its words. Lean checks it.
import Derived.Test.YtlgamjgdkljfiacGreatDoorZPWritePrettiesx0
import Derived.Test.YtlgamjgdkljfiacGreatDoorZPWritePrettiesx11
import Derived.Test.YtlgamjgdkljfiacGreatDoorZPWritePrettiesx15
import Derived.Test.YtlgamjgdkljfiacGreatDoorZPWritePrettiesx28
import Derived.Lib.Builder
import Derived.Lib.AppendStr
import Derived.Lib.UnsafeStr
import Derived.Lib.Walk
import Derived.LoopTactic
import Derived.BigCall
import Derived.Laws.Externs
import Derived.RegionTactic
namespace Go.Proofs.YtlgamjgdkljfiacGreatDoor.PWritePretties
open Go.RowKit Go.Proofs.YtlgamjgdkljfiacGreatDoorW.PrintWords Go.Proofs.YtlgamjgdkljfiacGreatDoorW.PrintLast Go.Proofs.YtlgamjgdkljfiacGreatDoorW.PrintMore
attribute [local go_sem] max2_int min2_int max_two min_two max_three min_three max_four min_four
set_option linter.unusedVariables false
set_option linter.unusedSimpArgs false
def PgAt (B b : Nat) (p : Value) (bs : List Value) (ln : Bool) (ind beh : ByteArray) (w : World) : Prop :=
 B ≤ b ∧ ∃ v,w.heap[b]? = some (.cells #[p,v,.bool ln,.string ind,.string beh] 47 (0,0)) ∧ w.ownsRow B 5 1 v bs.length bs ∧ v.ownBlock ≠ some b
def IsPg (B b : Nat) (bs : List Value) (ln : Bool) (ind beh : ByteArray) (w : World) : Prop :=
 PgAt B b (.pointer none) bs ln ind beh w ∨ PgAt B b (.pointer (some ⟨b,0,none⟩)) bs ln ind beh w
theorem PgAt.cell0 {B b : Nat} {p : Value} {bs : List Value} {ln : Bool} {ind beh : ByteArray} {w : World} (h : PgAt B b p bs ln ind beh w) : w.cell? ⟨b,0,none⟩ = some p:=by
 obtain ⟨_,v,hb,_⟩:=h
 simp [World.cell?,hb]
theorem PgAt.shape {B b : Nat} {p : Value} {bs : List Value} {ln : Bool} {ind beh : ByteArray} {w : World} (h : PgAt B b p bs ln ind beh w) : w.shape? b = some (47,5):=by
 obtain ⟨_,v,hb,_⟩:=h
 simp [World.shape?,hb]
theorem PgAt.frozen0 {B b : Nat} {p : Value} {bs : List Value} {ln : Bool} {ind beh : ByteArray} {w : World} (h : PgAt B b p bs ln ind beh w) : w.frozen? ⟨b,0,none⟩ = false:=by
 obtain ⟨_,v,hb,_⟩:=h
 simp [World.frozen?,hb]
theorem PgAt.lt {B b : Nat} {p : Value} {bs : List Value} {ln : Bool} {ind beh : ByteArray} {w : World} (h : PgAt B b p bs ln ind beh w) : b < w.heap.size:=by
 obtain ⟨_,v,hb,_⟩:=h
 rcases Nat.lt_or_ge b w.heap.size with h'|h'
 ·exact h'
 simp [Array.getElem?_eq_none h'] at hb
theorem PgAt.used {B b : Nat} {p : Value} {bs : List Value} {ln : Bool} {ind beh : ByteArray} {w : World} (h : PgAt B b p bs ln ind beh w) (q : Value) : PgAt B b q bs ln ind beh (w.setCell ⟨b,0,none⟩ q):=by
 obtain ⟨hB,v,hb,hown,hne⟩:=h;have hlt : b < w.heap.size:=PgAt.lt ⟨hB,v,hb,hown,hne⟩;refine ⟨hB,v,?_,?_,hne⟩
 ·simp [World.setCell,Array.getElem?_modify,hb]
 refine hown.kept (row:=some b) ⟨rfl,rfl,rfl,by simp [World.setCell],fun k _ hk=>Below.heap_setCell _ _ _ _ (fun e=>hk (by simp [e]))⟩ ?_;exact Or.inr hne
theorem pg_ne {B b : Nat} {p v v' : Value} {ln : Bool} {ind beh : ByteArray} {n : Nat} {bs : List Value} {w : World} (hown : w.ownsRow B 5 1 v' n bs) (hb : w.heap[b]? = some (.cells #[p,v,.bool ln,.string ind,.string beh] 47 (0,0))) : v'.ownBlock ≠ some b:=by
 intro e
 rcases hown.2 with ⟨rfl,_⟩|⟨g,cap,cur,rfl,_,hg,_⟩
 ·cases e
 have : g = b:=by simpa [Value.ownBlock] using e
 subst this
 rw [hb] at hg
 injection hg with hg
 injection hg with _ h2 _
 exact absurd h2 (by decide)
theorem PgAt.put {B b : Nat} {p v v' : Value} {bs' : List Value} {ln : Bool} {ind beh : ByteArray} {w : World} (hB : B ≤ b) (hb : w.heap[b]? = some (.cells #[p,v,.bool ln,.string ind,.string beh] 47 (0,0))) (hown : w.ownsRow B 5 1 v' bs'.length bs') :
  PgAt B b p bs' ln ind beh (w.setCell ⟨b,1,none⟩ v'):=by
 have hne:=pg_ne hown hb;refine ⟨hB,v',?_,?_,hne⟩
 ·simp [World.setCell,Array.getElem?_modify,hb]
 exact hown.kept (row:=some b) ⟨rfl,rfl,rfl,by simp [World.setCell],fun k _ hk=>Below.heap_setCell _ _ _ _ (fun e=>hk (by simp [e]))⟩ (Or.inr hne)
theorem pg_below {B b : Nat} {bs : List Value} {ln : Bool} {ind beh : ByteArray} {w w' : World} (h : IsPg B b bs ln ind beh w) (hb : Below w.heap.size w w') : IsPg B b bs ln ind beh w':=by
 have one : ∀ p,PgAt B b p bs ln ind beh w → PgAt B b p bs ln ind beh w':=by
  rintro p ⟨hB,v,hk,ho,hne⟩;exact ⟨hB,v,blk_below hk hb,own_move ho (fun k hk=>hb.block k (own_lt ho k hk)),hne⟩
 rcases h with h|h
 ·exact .inl (one _ h)
 exact .inr (one _ h)
theorem pg_lt {B b : Nat} {bs : List Value} {ln : Bool} {ind beh : ByteArray} {w : World} (h : IsPg B b bs ln ind beh w) : b < w.heap.size:=by
 rcases h with h|h
 ·exact h.lt
 exact h.lt
structure FrT (b : Nat) (w w' : World) : Prop where
 size : w.heap.size ≤ w'.heap.size
 block : ∀ (k : Nat) (cs : Array Value) (T : TypeId) (fr : Nat × Nat),k ≠ b → T ≠ 5 → w.heap[k]? = some (.cells cs T fr) → w'.heap[k]? = some (.cells cs T fr)
theorem FrT.refl (b : Nat) (w : World) : FrT b w w:=⟨Nat.le_refl _,fun _ _ _ _ _ _ h=>h⟩
theorem FrT.trans {b : Nat} {w w1 w2 : World} (h : FrT b w w1) (g : FrT b w1 w2) : FrT b w w2:=⟨Nat.le_trans h.size g.size,fun k cs T fr h1 h2 h3=>g.block k cs T fr h1 h2 (h.block k cs T fr h1 h2 h3)⟩
theorem FrT.below {b : Nat} {w w' : World} (h : Below w.heap.size w w') : FrT b w w':=⟨h.size,fun k cs T fr _ _ h3=>blk_below h3 h⟩
theorem FrT.alloc {b : Nat} (w : World) (o : Obj) : FrT b w (w.alloc o):=FrT.below ((Below.refl _ w).alloc (Nat.le_refl _) o)
theorem FrT.drew {b : Nat} (w : World) : FrT b w w.drew:=FrT.below (Below.drew (Below.refl _ w))
theorem FrT.set {b : Nat} (w : World) (j : Nat) (v : Value) : FrT b w (w.setCell ⟨b,j,none⟩ v):=by
 refine ⟨by simp [World.setCell],fun k cs T fr h1 _ h3=>?_⟩;rw [← h3];exact Below.heap_setCell _ _ _ _ (fun e=>h1 (by simpa using e))
theorem FrT.grown {b B : Nat} {w w' : World} {v : Value} {n : Nat} {xs : List Value} (hown : w.ownsRow B 5 1 v n xs) (h : w.grownBy w' v.ownBlock) : FrT b w w':=by
 refine ⟨h.size,fun k cs T fr _ h2 h3=>?_⟩;rw [h.block k (blk_lt h3) (fun e=>?_)]
 ·exact h3
 rcases hown.2 with ⟨rfl,_⟩|⟨g,cap,cur,rfl,_,hg,_⟩
 ·cases e
 have : k = g:=by simpa [Value.ownBlock] using e
 subst this
 rw [hg] at h3
 injection h3 with h3
 injection h3 with _ h4 _
 exact h2 h4.symm
theorem bld_infoP : (Tryz.prog.info? 5).map (fun i=>(i.zero,i.size,i.bytes)) = some (some (.int .u8 0),1,1):=by kernel_rfl
set_option maxHeartbeats 1000000 in
set_option maxRecDepth 100000 in
theorem pg_check_used (b : Nat) (w : World) (h0 : w.cell? ⟨b,0,none⟩ = some (.pointer (some ⟨b,0,none⟩))) :
  Calls Tryz.prog 52 #[.pointer (some ⟨b,0,none⟩)] w fun e w'=>e = .returned (.tuple #[]) ∧ w = w':=by
 obtain ⟨j,hj,_⟩:=Option.map_eq_some_iff.1 (show (Tryz.prog.info? 45).map (·.size) = some 2 from by kernel_rfl);go_enter Tryz.func52,Tryz.ntmps52;go_wp2
 rw [Lib.run_neq_ptr_same w _ Tryz.underlying42 hj];go_wp2
 go_end0
 exact ⟨rfl,rfl⟩
set_option maxHeartbeats 1000000 in
set_option maxRecDepth 100000 in
theorem pg_check_fresh (b : Nat) (w : World) (h0 : w.cell? ⟨b,0,none⟩ = some (.pointer none)) (hsh : w.shape? b = some (47,5)) (hfz : w.frozen? ⟨b,0,none⟩ = false) :
  Calls Tryz.prog 52 #[.pointer (some ⟨b,0,none⟩)] w fun e w'=>e = .returned (.tuple #[]) ∧ w.setCell ⟨b,0,none⟩ (.pointer (some ⟨b,0,none⟩)) = w':=by
 obtain ⟨j,hj,hjs⟩:=Option.map_eq_some_iff.1 (show (Tryz.prog.info? 45).map (·.size) = some 2 from by kernel_rfl);go_enter Tryz.func52,Tryz.ntmps52;go_wp2
 rw [Lib.run_to_unsafe w ⟨b,0,none⟩ Tryz.underlying42 Tryz.underlying109 hj (by rw [hjs];decide) hsh (Nat.zero_lt_succ 4)];simp only [Result.andThen];rw [Oper.upon_value];go_wp2
 rw [run_callFunc_extern Tryz.func69 (by kernel_rfl) (by kernel_rfl) (by kernel_rfl) (e:=Extern.AbiNoEscape.same) (by kernel_rfl)];rw [Lib.run_noEscape];simp only [Result.andThen];rw [Oper.upon_value];go_wp2
 rw [Lib.run_from_unsafe w ⟨b,0,none⟩ Tryz.underlying109 Tryz.underlying42 hj hsh (by kernel_rfl)];simp only [Result.andThen];rw [Oper.upon_value];go_wp2
 go_end0
 exact ⟨rfl,rfl⟩
theorem pg_check (B b : Nat) (bs : List Value) (ln : Bool) (ind beh : ByteArray) (w : World) (h : IsPg B b bs ln ind beh w) :
  Calls Tryz.prog 52 #[.pointer (some ⟨b,0,none⟩)] w fun e w'=>e = .returned (.tuple #[]) ∧ (PgAt B b (.pointer (some ⟨b,0,none⟩)) bs ln ind beh w' ∧ Below B w w' ∧ FrT b w w'):=by
 rcases h with h|h
 ·refine (pg_check_fresh b w h.cell0 h.shape h.frozen0).mono ?_;rintro e w' ⟨rfl,rfl⟩;exact ⟨rfl,h.used _,(Below.refl B w).setCell (p:=⟨b,0,none⟩) h.1 _,FrT.set w 0 _⟩
 refine (pg_check_used b w h.cell0).mono ?_;rintro e w' ⟨rfl,rfl⟩;exact ⟨rfl,h,Below.refl B _,FrT.refl b _⟩
set_option maxHeartbeats 1000000 in
set_option maxRecDepth 100000 in
theorem pg_byte (B b : Nat) (bs : List Value) (ln : Bool) (ind beh : ByteArray) (c : Int) (w : World) (h : IsPg B b bs ln ind beh w) (hlen : bs.length + 1 ≤ 140737488355328) (hBw : B ≤ w.heap.size) :
  Calls Tryz.prog 55 #[.pointer (some ⟨b,0,none⟩),.int .u8 c] w fun e w'=>e = .returned .nilIface ∧ (PgAt B b (.pointer (some ⟨b,0,none⟩)) (bs ++ [.int .u8 c]) ln ind beh w' ∧ Below B w w' ∧ FrT b w w'):=by
 obtain ⟨i0,hi,hz0,hz1,hz2⟩:=info_parts bld_infoP;go_enter Tryz.func55,Tryz.ntmps55
 go_wp2_with (go_at_call 52;refine (pg_check B b bs ln ind beh _ h).mono ?_)
 rintro e w1 ⟨rfl,h1,hb1,hf1⟩;obtain ⟨hB,v,hbk,hown,hne⟩:=h1
 have c0 : w1.cell? ⟨b,0,none⟩ = some (.pointer (some ⟨b,0,none⟩)):=by rw [Lib.cell_of_heap hbk];rfl
 have c1 : w1.cell? ⟨b,1,none⟩ = some v:=by rw [Lib.cell_of_heap hbk];rfl
 go_wp2_with (at_builtin;refine wpList_append_own _ rfl _ _ 43 rfl B 5 i0 (.int .u8 0) 1 1 Tryz.underlying43 hi hz0 hz1 hz2 rfl (by decide) _ _ _ rfl (hown.alloc _) ⟨w1.heap.size,0,none⟩ 1 1 [.int .u8 c] rfl rfl ?c1 ?c2 ?c3 ?c4 ?c5 ?_)
 case c1 =>
  intro j u hj
  match j,hj with
  | 0,hj=>simp at hj;subst hj;simp [Addr.add]
 case c2=>intro u hu;simp at hu;subst hu;rfl
 case c3=>unfold maxLen;omega
 case c4=>omega
 case c5=>have:=hb1.size;simp;omega
 intro v' w2 hown' hgrow _
 have hlt : b < w1.heap.size:=by
  rcases Nat.lt_or_ge b w1.heap.size with h'|h'
  ·exact h'
  simp [Array.getElem?_eq_none h'] at hbk
 have hb2 : w2.heap[b]? = some (.cells #[.pointer (some ⟨b,0,none⟩),v,.bool ln,.string ind,.string beh] 47 (0,0)):=by
  rw [hgrow.block b (by simp;omega) (fun e=>hne e.symm),Lib.alloc_old w1 _ b hlt];exact hbk
 have d0 : w2.cell? ⟨b,0,none⟩ = some (.pointer (some ⟨b,0,none⟩)):=by rw [Lib.cell_of_heap hb2];rfl
 have d1 : w2.cell? ⟨b,1,none⟩ = some v:=by rw [Lib.cell_of_heap hb2];rfl
 have f1 : w2.frozen? ⟨b,1,none⟩ = false:=Lib.frozen_of_heap hb2 1
 obtain ⟨g,cap,rfl⟩ : ∃ g cap,v' = .slice (some ⟨g,0,none⟩) (bs.length + 1) cap:=by
  rcases hown'.2 with ⟨_,h0⟩|⟨g,cap,cur,hv,_⟩
  ·omega
  exact ⟨g,cap,hv⟩
 go_wp2
 go_ret;refine ⟨rfl,?_,?_,?_⟩
 ·exact PgAt.put hB hb2 (bs':=bs ++ [.int .u8 c]) (by simpa using hown')
 ·exact ((hb1.alloc (by have:=hb1.size;omega) _).grown hgrow (by have:=hb1.size;simp;omega) (fun k hk=>(hown.lt k hk).1)).setCell (p:=⟨b,1,none⟩) hB _
 exact ((hf1.trans (FrT.alloc w1 _)).trans (FrT.grown (hown.alloc _) hgrow)).trans (FrT.set w2 1 _)
set_option maxHeartbeats 1000000 in
set_option maxRecDepth 100000 in
theorem pg_string (B b : Nat) (bs : List Value) (ln : Bool) (ind beh : ByteArray) (s : ByteArray) (w : World) (h : IsPg B b bs ln ind beh w) (hlen : bs.length + s.size ≤ 140737488355328) (hBw : B ≤ w.heap.size) :
  Calls Tryz.prog 31 #[.pointer (some ⟨b,0,none⟩),.string s] w fun e w'=>e = .returned (.tuple #[.int .i64 s.size,.nilIface]) ∧ (PgAt B b (.pointer (some ⟨b,0,none⟩)) (bs ++ Lib.strCells s) ln ind beh w' ∧ Below B w w' ∧ FrT b w w'):=by
 obtain ⟨i0,hi,hz0,hz1,hz2⟩:=info_parts bld_infoP;go_enter Tryz.func31,Tryz.ntmps31
 go_wp2_with (go_at_call 52;refine (pg_check B b bs ln ind beh _ h).mono ?_)
 rintro e w1 ⟨rfl,h1,hb1,hf1⟩;obtain ⟨hB,v,hbk,hown,hne⟩:=h1
 have c0 : w1.cell? ⟨b,0,none⟩ = some (.pointer (some ⟨b,0,none⟩)):=by rw [Lib.cell_of_heap hbk];rfl
 have c1 : w1.cell? ⟨b,1,none⟩ = some v:=by rw [Lib.cell_of_heap hbk];rfl
 go_wp2_with (at_builtin;refine Lib.wpList_append_own_string _ rfl _ _ 43 9 rfl B 5 i0 Tryz.underlying43 Tryz.underlying9 hi hz0 hz1 hz2 _ _ _ rfl hown s rfl ?c3 ?c4 ?c5 ?_)
 case c3=>unfold maxLen;omega
 case c4=>omega
 case c5=>have:=hb1.size;omega
 intro v' w2 hown' hgrow _
 have hlt : b < w1.heap.size:=by
  rcases Nat.lt_or_ge b w1.heap.size with h'|h'
  ·exact h'
  simp [Array.getElem?_eq_none h'] at hbk
 have hb2 : w2.heap[b]? = some (.cells #[.pointer (some ⟨b,0,none⟩),v,.bool ln,.string ind,.string beh] 47 (0,0)):=by
  rw [hgrow.block b hlt (fun e=>hne e.symm)];exact hbk
 have d0 : w2.cell? ⟨b,0,none⟩ = some (.pointer (some ⟨b,0,none⟩)):=by rw [Lib.cell_of_heap hb2];rfl
 have d1 : w2.cell? ⟨b,1,none⟩ = some v:=by rw [Lib.cell_of_heap hb2];rfl
 have f1 : w2.frozen? ⟨b,1,none⟩ = false:=Lib.frozen_of_heap hb2 1
 obtain ⟨ao,n',cap,rfl⟩ : ∃ ao n' cap,v' = .slice ao n' cap:=by
  rcases hown'.2 with ⟨hv,_⟩|⟨g,cap,cur,hv,_⟩
  ·exact ⟨_,_,_,hv⟩
  exact ⟨_,_,_,hv⟩
 go_wp2
 go_ret2
 refine ⟨rfl,?_,?_,?_⟩
 ·exact PgAt.put hB hb2 (bs':=bs ++ Lib.strCells s) (by simpa [Lib.strCells_length] using hown')
 ·exact (hb1.grown hgrow (by have:=hb1.size;omega) (fun k hk=>(hown.lt k hk).1)).setCell (p:=⟨b,1,none⟩) hB _
 exact (hf1.trans (FrT.grown hown hgrow)).trans (FrT.set w2 1 _)
set_option maxHeartbeats 1000000 in
set_option maxRecDepth 100000 in
theorem pg_text (B b : Nat) (l : List UInt8) (ln : Bool) (ind beh : ByteArray) (w : World) (h : IsPg B b (Lib.byteCells l) ln ind beh w) (h0 : l ≠ []) :
  Calls Tryz.prog 22 #[.pointer (some ⟨b,0,none⟩)] w fun e w'=>e = .returned (.string ⟨l.toArray⟩) ∧ Below B w w':=by
 obtain ⟨p,hB,v,hbk,hown,hne⟩ : ∃ p,PgAt B b p (Lib.byteCells l) ln ind beh w:=by
  rcases h with h|h
  ·exact ⟨_,h⟩
  exact ⟨_,h⟩
 have hl0 : l.length ≠ 0:=by simpa using h0
 rw [Lib.byteCells_length] at hown
 obtain ⟨g,cap,cur,rfl,hbg,hg,hnc,hcm,hcs,htake⟩ : ∃ g cap cur,v = .slice (some ⟨g,0,none⟩) l.length cap ∧ B ≤ g ∧ w.heap[g]? = some (.cells cur 5 (0,0)) ∧ l.length ≤ cap ∧ cap ≤ maxLen ∧ cur.size = cap * 1 ∧ cur.toList.take (l.length * 1) = Lib.byteCells l:=by
  rcases hown.2 with ⟨_,hz⟩|⟨g,cap,cur,hv,r⟩
  ·exact absurd hz hl0
  exact ⟨g,cap,cur,hv,r⟩
 have c1 : w.drew.cell? ⟨b,1,none⟩ = some (.slice (some ⟨g,0,none⟩) l.length cap):=by
  have : w.drew.heap[b]? = some (.cells #[p,.slice (some ⟨g,0,none⟩) l.length cap,.bool ln,.string ind,.string beh] 47 (0,0)):=hbk;rw [Lib.cell_of_heap this];rfl
 have hSD : (Builtin.unsafeSliceData_ #[43] 73 #[.slice (some ⟨g,0,none⟩) l.length cap]).run Tryz.prog w.drew = .ok (.pointer (some ⟨g,0,none⟩)) w.drew :=
  Lib.run_unsafeSliceData_row _ _ _ _ _ _ (by omega)
 have hUS : (Builtin.unsafeString_ #[73,3] 9 #[.pointer (some ⟨g,0,none⟩),.int .i64 l.length]).run Tryz.prog w.drew = .ok (.string ⟨l.toArray⟩) (w.drew.freeze ⟨g,0,none⟩ l.length):=by
  refine Lib.run_unsafeString_row w.drew 73 3 9 5 Tryz.underlying73 (by kernel_rfl) g cur.size (by have hg' : w.drew.heap[g]? = some (.cells cur 5 (0,0)):=hg;simp [World.shape?,hg']) l h0 (by omega) (by unfold maxLen at hcm;omega) ?_;intro j x hx;have:=hown.cells (g:=g) rfl j (.int .u8 x.toNat) (by simp [Lib.byteCells,hx]);exact this
 go_enter Tryz.func22,Tryz.ntmps22;go_wp2
 go_region
 all_goals (go_wp2;go_ret;exact ⟨rfl,Lib.below_freeze (Below.drew (Below.refl B w)) (p:=⟨g,0,none⟩) hbg _⟩)
def escT (s : ByteArray) : List UInt8:=if 0 ≤ u8Run s.data.toList 0 0 0 0 then [] else escL s.data.toList
def quoL (s : ByteArray) : List UInt8:=34 :: (escT s ++ [34])
theorem escT_le (s : ByteArray) : (escT s).length ≤ 6 * s.size:=by
 unfold escT
 split
 ·exact Nat.zero_le _
 have:=escL_le s.data.toList
 rwa [data_length] at this
theorem esc_f (s : ByteArray) (hs : s.size ≤ 1099511627776) : ∃ e,texts_Escape.f s = some (⟨(escT s).toArray⟩,e):=by
 unfold texts_Escape.f escT
 rw [if_pos hs]
 split
 ·exact ⟨_,rfl⟩
 exact ⟨_,rfl⟩
theorem quo_eq (s : ByteArray) : (⟨#[34]⟩ : ByteArray) ++ ⟨(escT s).toArray⟩ ++ ⟨#[34]⟩ = ⟨(quoL s).toArray⟩:=by
 apply ByteArray.ext
 apply Array.ext'
 simp [quoL]
theorem cells_str (l : List UInt8) : Lib.strCells ⟨l.toArray⟩ = Lib.byteCells l:=by
 unfold Lib.strCells Lib.byteCells
 simp
set_option maxHeartbeats 2000000 in
set_option maxRecDepth 100000 in
theorem pg_quoted (B b : Nat) (bs : List Value) (ln : Bool) (ind beh : ByteArray) (s : ByteArray) (w : World) (h : IsPg B b bs ln ind beh w) (hs : s.size ≤ 1099511627776) (hlen : bs.length + (quoL s).length ≤ 140737488355328) (hBw : B ≤ w.heap.size) :
  Calls Tryz.prog 34 #[.pointer (some ⟨b,0,none⟩),.string s] w fun e w'=>e = .returned (.tuple #[]) ∧ PgAt B b (.pointer (some ⟨b,0,none⟩)) (bs ++ Lib.byteCells (quoL s)) ln ind beh w' ∧ Below B w w' ∧ FrT b w w':=by
 obtain ⟨er,he⟩:=esc_f s hs;have hel:=escT_le s;have hlt:=pg_lt h;have HP:=Aside0.mk h;clear h;go_enter Tryz.func34,Tryz.ntmps34
 go_wp2_with fail
 refine (texts_Escape.calls _ _ _ _ he).mono ?_;rintro e w1 ⟨rfl,hb1⟩;have HP1:=Aside0.mk (pg_below HP.out hb1);have HB1:=Aside0.mk (hb1.mono hBw);have HF1:=Aside0.mk (FrT.below (b:=b) hb1);have hz1:=hb1.size;clear hb1 he
 have z1 : ((⟨#[34]⟩ : ByteArray).size + (⟨(escT s).toArray⟩ : ByteArray).size) ≤ 9223372036854775807:=by
  show 1 + (escT s).toArray.size ≤ _;rw [List.size_toArray];omega
 have z2 : (((⟨#[34]⟩ : ByteArray) ++ ⟨(escT s).toArray⟩).size + (⟨#[34]⟩ : ByteArray).size) ≤ 9223372036854775807:=by
  rw [ByteArray.size_append];show 1 + (escT s).toArray.size + 1 ≤ _;rw [List.size_toArray];omega
 go_wp2_with fail
 rw [quo_eq];refine (pg_string B b bs ln ind beh _ _ HP1.out (by show _ + (quoL s).toArray.size ≤ _;rw [List.size_toArray];exact hlen) (by omega)).mono ?_;rintro e w2 ⟨rfl,h1,b1,f1⟩;go_wp2
 go_end0
 exact ⟨rfl,by rw [← cells_str];exact h1,HB1.out.trans b1,HF1.out.trans f1⟩
def joinP (sep : List UInt8) (f : Nat → Option (List UInt8)) : Nat → Nat → Option (List UInt8)
 | 0,_=>some []
 | d + 1,i=>(f i).bind fun o=>(joinP sep f d (i + 1)).bind fun r=>some ((if i = 0 then [] else [44]) ++ sep ++ o ++ r)
set_option maxHeartbeats 2000000 in
set_option maxRecDepth 100000 in
theorem pg_line0 (B b : Nat) (ind beh : ByteArray) (e : Int) (bs : List Value) (w : World) (h : IsPg B b bs false ind beh w) :
  Calls Tryz.prog 56 #[.pointer (some ⟨b,0,none⟩),.int .i64 e] w fun e' w'=>e' = .returned (.tuple #[]) ∧ IsPg B b (bs ++ Lib.byteCells []) false ind beh w' ∧ Below B w w' ∧ FrT b w w':=by
 have hc : w.cell? ⟨b,1 + 1,none⟩ = some (.bool false):=by
  rcases h with ⟨_,v,hb,_⟩|⟨_,v,hb,_⟩
  ·simp [World.cell?,hb]
  simp [World.cell?,hb]
 have hl:=pg_lt h;have HP : Aside0 (IsPg B b (bs ++ Lib.byteCells []) false ind beh w):=⟨by rw [show Lib.byteCells [] = ([] : List Value) from rfl,List.append_nil];exact h⟩;clear h;go_enter Tryz.func56,Tryz.ntmps56;go_wp2
 go_end0
 exact ⟨rfl,HP.out,Below.refl B _,FrT.refl b _⟩
set_option maxHeartbeats 2000000 in
set_option maxRecDepth 100000 in
theorem row_parts (A : Option Addr) (n c : Nat) (w : World) : Calls Tryz.prog 164 #[.slice A n c] w fun e w'=>e = .returned (.int .i64 n) ∧ Below w.heap.size w w':=by
 go_enter Tryz.func164,Tryz.ntmps164;go_wp2
 go_ret;exact ⟨rfl,Below.refl _ _⟩
set_option maxHeartbeats 2000000 in
set_option maxRecDepth 100000 in
theorem table_parts (k0 k1 k2 k3 k4 : Value) (A : Option Addr) (n c : Nat) (w : World) : Calls Tryz.prog 165 #[.agg #[k0,k1,k2,k3,k4,.slice A n c]] w fun e w'=>e = .returned (.int .i64 n) ∧ Below w.heap.size w w':=by
 go_enter Tryz.func165,Tryz.ntmps165;go_wp2
 go_ret;exact ⟨rfl,(Below.refl _ _).alloc (Nat.le_refl _) _⟩
set_option maxHeartbeats 4000000 in
set_option maxRecDepth 100000 in
theorem pg_list_row (B b : Nat) (ln : Bool) (ind beh : ByteArray) (d : Int) (A : Option Addr) (c : Nat) (n : Nat) (hn : n ≤ 140737488355328)  (c1 c2 c3 : Value) (L : Int → List UInt8) (f : Nat → Option (List UInt8)) (J : World → Prop) (hJ : ∀ w w',J w → FrT b w w' → Below B w w' → J w')
  (hline : ∀ (e : Int) (bs : List Value) (w : World),(e = d ∨ e = wrap64 (d + 1)) → IsPg B b bs ln ind beh w → B ≤ w.heap.size → bs.length + (L e).length ≤ 140737488355328 → Calls Tryz.prog 56 #[.pointer (some ⟨b,0,none⟩),.int .i64 e] w fun e' w'=>e' = .returned (.tuple #[]) ∧ IsPg B b (bs ++ Lib.byteCells (L e)) ln ind beh w' ∧ Below B w w' ∧ FrT b w w')
  (hclo : ∀ (i : Nat),i < n → ∀ o,f i = some o → ∀ (bs : List Value) (w : World),IsPg B b bs ln ind beh w → B ≤ w.heap.size → J w → bs.length + o.length ≤ 140737488355328 → Calls Tryz.prog 36 #[.int .i64 i,c1,c2,c3] w fun e w'=>e = .returned (.tuple #[]) ∧ IsPg B b (bs ++ Lib.byteCells o) ln ind beh w' ∧ Below B w w' ∧ FrT b w w')
  (bs : List Value) (w : World) (h : IsPg B b bs ln ind beh w) (hBw : B ≤ w.heap.size) (hj : J w) (out : List UInt8) (ho : joinP (L (wrap64 (d + 1))) f n 0 = some out) (hlen : bs.length + out.length + (if n = 0 then [] else L d).length + 2 ≤ 140737488355328) :
  Calls Tryz.prog 35 #[.pointer (some ⟨b,0,none⟩),.int .u8 91,.int .u8 93,.iface 69 (.slice A n c),.int .i64 d,.func (.func 36) #[] #[c1,c2,c3]] w fun e w'=>e = .returned (.tuple #[]) ∧ IsPg B b (bs ++ Lib.byteCells (91 :: (out ++ ((if n = 0 then [] else L d) ++ [93])))) ln ind beh w' ∧ Below B w w' ∧ FrT b w w':=by
 obtain ⟨sep,hsep⟩ : ∃ sep,L (wrap64 (d + 1)) = sep:=⟨_,rfl⟩
 rw [hsep] at ho
 obtain ⟨tl,htl⟩ : ∃ tl,(if n = 0 then [] else L d) = tl:=⟨_,rfl⟩
 rw [htl] at hlen ⊢
 have HTL:=Aside0.mk htl;have HJ:=Aside0.mk hJ;have HCLO:=Aside0.mk hclo;have HLINE:=Aside0.mk hline;have HP:=Aside0.mk h;have HO:=Aside0.mk ho;have HJ0:=Aside0.mk hj;have HSEP:=Aside0.mk hsep;have hlt:=pg_lt h;clear hJ hclo h ho hj hline hsep htl;go_enter Tryz.func35,Tryz.ntmps35
 go_wp2_with (go_at_call 55;refine (pg_byte B b bs ln ind beh 91 _ HP.out (by omega) hBw).mono ?_)
 rintro e w1 ⟨rfl,h1,b1,f1⟩;have HP1:=Aside0.mk (show IsPg B b (bs ++ Lib.byteCells (91 :: [])) ln ind beh w1 from .inr h1);have HB1:=Aside0.mk b1;have HF1:=Aside0.mk f1;have hz1:=b1.size;have hlt1:=h1.lt;clear h1 b1 f1
 have hm : ∀ (D : Nat) (x : Value) (w : World), (method (D + 1) 69 x "quarry/write.parts").run Tryz.prog w = .ok (164, x) w := fun D x w => by kernel_rfl
 go_wp2_with fail
 refine (row_parts A n c _).mono ?_;rintro e w2 ⟨rfl,bz⟩;have HP2:=Aside0.mk (pg_below HP1.out bz);have HB2:=Aside0.mk (HB1.out.trans (bz.mono (show B ≤ _ by omega)));have HF2:=Aside0.mk (HF1.out.trans (FrT.below (b:=b) bz));have HJ2:=Aside0.mk (HJ.out _ _ HJ0.out HF2.out HB2.out);have hz2:=HB2.out.size;have hlt2:=pg_lt HP2.out;clear bz;go_wp2
 go_loopw [20] (fun v wr=>∃ (i : Nat) (pre r : List UInt8),i ≤ n ∧ v = .int .i64 i ∧ joinP sep f (n - i) i = some r ∧ out = pre ++ r ∧ IsPg B b (bs ++ Lib.byteCells (91 :: pre)) ln ind beh wr ∧ J wr ∧ Below B w wr ∧ FrT b w wr) (fun v _=>n - (intOf v).toNat)
 case atStart=>exact ⟨0,[],out,Nat.zero_le _,rfl,by rw [Nat.sub_zero];exact HO.out,rfl,HP2.out,HJ2.out,HB2.out,HF2.out⟩
 case round =>
  obtain ⟨i,pre,r,hi,rfl,hr,hout,hpg,hjw,hbw,hfw⟩:=hrel;have hzw:=hbw.size;have hltw:=pg_lt hpg;have hoL:=congrArg List.length hout
  rw [List.length_append] at hoL
  by_cases hin : i < n
  ·obtain ⟨m,hm1⟩ : ∃ m,n - i = m + 1:=⟨n - i - 1,by omega⟩
   have hm2 : n - (i + 1) = m:=by omega
   rw [hm1,joinP] at hr
   obtain ⟨o,ho1,hr⟩:=Option.bind_eq_some_iff.mp hr;obtain ⟨r2,ho2,hr⟩:=Option.bind_eq_some_iff.mp hr;have hr:=Option.some.inj hr;have HO1:=Aside0.mk ho1;have HO2:=Aside0.mk ho2;have HR:=Aside0.mk hr;have HOUT:=Aside0.mk hout;have HPG:=Aside0.mk hpg;have HJW:=Aside0.mk hjw;have HBW:=Aside0.mk hbw;have HFW:=Aside0.mk hfw;have hrL:=congrArg List.length hr
   rw [List.length_append,List.length_append,List.length_append] at hrL
   have hL0 : (bs ++ Lib.byteCells (91 :: pre)).length = bs.length + pre.length + 1:=by rw [List.length_append,Lib.byteCells_length,List.length_cons];omega
   clear ho1 ho2 hr hout hpg hjw hbw hfw
   by_cases h0 : i = 0
   ·subst h0
    rw [if_pos rfl,List.length_nil] at hrL
    go_wp2_with fail
    refine (HLINE.out _ _ _ (.inr rfl) HPG.out (by omega) (by rw [HSEP.out,hL0];omega)).mono ?_;rintro e w3 ⟨rfl,h3,b3,f3⟩
    rw [HSEP.out] at h3
    have HP3:=Aside0.mk h3;have HB3:=Aside0.mk (HBW.out.trans b3);have HF3:=Aside0.mk (HFW.out.trans f3);have HJ3:=Aside0.mk (HJ.out _ _ HJW.out f3 b3);have hz3:=HB3.out.size
    have hL3 : (bs ++ Lib.byteCells (91 :: pre) ++ Lib.byteCells sep).length = bs.length + pre.length + 1 + sep.length:=by rw [List.length_append,hL0,Lib.byteCells_length]
    clear h3 b3 f3
    go_wp2_with fail
    refine (HCLO.out 0 hin o HO1.out _ _ HP3.out (by omega) HJ3.out (by rw [hL3];omega)).mono ?_;rintro e w4 ⟨rfl,h4,b4,f4⟩
    have HP4 : Aside0 (IsPg B b (bs ++ Lib.byteCells (91 :: (pre ++ (sep ++ o)))) ln ind beh w4):=by
     refine ⟨?_⟩
     have e : bs ++ Lib.byteCells (91 :: pre) ++ Lib.byteCells sep ++ Lib.byteCells o = bs ++ Lib.byteCells (91 :: (pre ++ (sep ++ o))):=by
      simp only [List.append_assoc,← List.cons_append,Lib.byteCells_append]
     rw [← e];exact h4
    have HB4:=Aside0.mk (HB3.out.trans b4);have HF4:=Aside0.mk (HF3.out.trans f4);have HJ4:=Aside0.mk (HJ.out _ _ HJ3.out f4 b4)
    have hx : out = (pre ++ (sep ++ o)) ++ r2:=by rw [HOUT.out,← HR.out];simp
    clear h4 b4 f4;go_wp2
    go_roundw
    case rel=>exact ⟨0 + 1,pre ++ (sep ++ o),r2,by omega,by go_num,by rw [hm2];exact HO2.out,hx,HP4.out,HJ4.out,HB4.out,HF4.out⟩
    case measure=>simp [intOf];omega
   have hd : decide ((i : Int) > 0) = true:=decide_eq_true (by omega)
   rw [if_neg h0,List.length_singleton] at hrL
   go_wp2_with (go_at_call 55;refine (pg_byte B b _ ln ind beh 44 _ HPG.out (by rw [hL0];omega) (by omega)).mono ?_)
   rintro e w3 ⟨rfl,h3,b3,f3⟩;have HP3:=Aside0.mk (show IsPg B b _ ln ind beh w3 from .inr h3);have HB3:=Aside0.mk (HBW.out.trans b3);have HF3:=Aside0.mk (HFW.out.trans f3);have HJ3:=Aside0.mk (HJ.out _ _ HJW.out f3 b3);have hz3:=HB3.out.size;have hl3:=h3.lt
   have hL3 : (bs ++ Lib.byteCells (91 :: pre) ++ [Value.int .u8 44]).length = bs.length + pre.length + 1 + 1:=by rw [List.length_append,hL0,List.length_singleton]
   clear h3 b3 f3 hd
   go_wp2_with fail
   refine (HLINE.out _ _ _ (.inr rfl) HP3.out (by omega) (by rw [HSEP.out,hL3];omega)).mono ?_;rintro e w3' ⟨rfl,h3,b3,f3⟩
   rw [HSEP.out] at h3
   have HP5:=Aside0.mk h3;have HB5:=Aside0.mk (HB3.out.trans b3);have HF5:=Aside0.mk (HF3.out.trans f3);have HJ5:=Aside0.mk (HJ.out _ _ HJ3.out f3 b3);have hz5:=HB5.out.size
   have hL5 : (bs ++ Lib.byteCells (91 :: pre) ++ [Value.int .u8 44] ++ Lib.byteCells sep).length = bs.length + pre.length + 1 + 1 + sep.length:=by rw [List.length_append,hL3,Lib.byteCells_length]
   clear h3 b3 f3
   go_wp2_with fail
   refine (HCLO.out i hin o HO1.out _ _ HP5.out (by omega) HJ5.out (by rw [hL5];omega)).mono ?_;rintro e w4 ⟨rfl,h4,b4,f4⟩
   have HP4 : Aside0 (IsPg B b (bs ++ Lib.byteCells (91 :: (pre ++ ([44] ++ (sep ++ o))))) ln ind beh w4):=by
    refine ⟨?_⟩
    have e : bs ++ Lib.byteCells (91 :: pre) ++ [Value.int .u8 44] ++ Lib.byteCells sep ++ Lib.byteCells o = bs ++ Lib.byteCells (91 :: (pre ++ ([44] ++ (sep ++ o)))):=by
     have e44 : ([.int .u8 44] : List Value) = Lib.byteCells [44]:=rfl;rw [e44];rw [← List.cons_append,Lib.byteCells_append,Lib.byteCells_append,Lib.byteCells_append];simp only [List.append_assoc]
    rw [← e];exact h4
   have HB4:=Aside0.mk (HB5.out.trans b4);have HF4:=Aside0.mk (HF5.out.trans f4);have HJ4:=Aside0.mk (HJ.out _ _ HJ5.out f4 b4)
   have hx : out = (pre ++ ([44] ++ (sep ++ o))) ++ r2:=by rw [HOUT.out,← HR.out,if_neg h0];simp
   clear h4 b4 f4;go_wp2
   go_roundw
   case rel=>exact ⟨i + 1,pre ++ ([44] ++ (sep ++ o)),r2,by omega,by go_num,by rw [hm2];exact HO2.out,hx,HP4.out,HJ4.out,HB4.out,HF4.out⟩
   case measure=>simp [intOf];omega
  have hie : i = n:=by omega
  subst hie
  have hr0 : r = []:=by rw [Nat.sub_self,joinP] at hr;exact (Option.some.inj hr).symm
  subst hr0;have HPG:=Aside0.mk hpg;have HBW:=Aside0.mk hbw;have HFW:=Aside0.mk hfw
  have hx : pre = out:=by rw [hout,List.append_nil]
  subst hx;clear hr hout hpg hjw hbw hfw
  have hL0 : (bs ++ Lib.byteCells (91 :: pre)).length = bs.length + pre.length + 1:=by rw [List.length_append,Lib.byteCells_length,List.length_cons];omega
  go_wp2_with fail
  refine (row_parts A i c _).mono ?_;rintro e w3 ⟨rfl,bz⟩;have HPG:=Aside0.mk (pg_below HPG.out bz);have HBW:=Aside0.mk (HBW.out.trans (bz.mono (show B ≤ _ by omega)));have HFW:=Aside0.mk (HFW.out.trans (FrT.below (b:=b) bz));have hzw:=HBW.out.size;have hltw:=pg_lt HPG.out;clear bz
  by_cases h0 : i = 0
  ·have htl:=HTL.out
   rw [if_pos h0] at htl
   subst htl;have hd : decide ((i : Int) > 0) = false:=decide_eq_false (by omega)
   go_wp2_with (go_at_call 55;refine (pg_byte B b _ ln ind beh 93 _ HPG.out (by omega) (by omega)).mono ?_)
   rintro e w5 ⟨rfl,h5,b5,f5⟩;go_wp2
   go_end0
   have e : bs ++ Lib.byteCells (91 :: pre) ++ [Value.int .u8 93] = bs ++ Lib.byteCells (91 :: (pre ++ [93])):=by
    have e44 : ([.int .u8 93] : List Value) = Lib.byteCells [93]:=rfl;rw [e44,List.append_assoc,← List.cons_append,Lib.byteCells_append]
   exact ⟨rfl,by first|(rw [← e];exact .inr h5)|(rw [List.nil_append,← e];exact .inr h5),HBW.out.trans b5,HFW.out.trans f5⟩
  have htl:=HTL.out
  rw [if_neg h0] at htl
  subst htl;have hd : decide ((i : Int) > 0) = true:=decide_eq_true (by omega)
  go_wp2_with fail
  refine (HLINE.out _ _ _ (.inl rfl) HPG.out (by omega) (by omega)).mono ?_;rintro e w3 ⟨rfl,h3,b3,f3⟩;have HP3:=Aside0.mk h3;have HB3:=Aside0.mk (HBW.out.trans b3);have HF3:=Aside0.mk (HFW.out.trans f3);have hz3:=HB3.out.size;have hl3:=pg_lt h3
  have hL3 : (bs ++ Lib.byteCells (91 :: pre) ++ Lib.byteCells (L d)).length = bs.length + pre.length + 1 + (L d).length:=by rw [List.length_append,hL0,Lib.byteCells_length]
  clear h3 b3 f3 hd
  go_wp2_with (go_at_call 55;refine (pg_byte B b _ ln ind beh 93 _ HP3.out (by rw [hL3];omega) (by omega)).mono ?_)
  rintro e w5 ⟨rfl,h5,b5,f5⟩;go_wp2
  go_end0
  have e : bs ++ Lib.byteCells (91 :: pre) ++ Lib.byteCells (L d) ++ [Value.int .u8 93] = bs ++ Lib.byteCells (91 :: (pre ++ (L d ++ [93]))):=by
   have e44 : ([.int .u8 93] : List Value) = Lib.byteCells [93]:=rfl;rw [e44,← List.cons_append,Lib.byteCells_append,Lib.byteCells_append];simp only [List.append_assoc]
  exact ⟨rfl,by rw [← e];exact .inr h5,HB3.out.trans b5,HF3.out.trans f5⟩
set_option maxHeartbeats 4000000 in
set_option maxRecDepth 100000 in
theorem pg_list_table (B b : Nat) (ln : Bool) (ind beh : ByteArray) (d : Int) (k0 k1 k2 k3 k4 : Value) (A : Option Addr) (c : Nat) (n : Nat) (hn : n ≤ 140737488355328)  (c1 c2 c3 : Value) (L : Int → List UInt8) (f : Nat → Option (List UInt8)) (J : World → Prop) (hJ : ∀ w w',J w → FrT b w w' → Below B w w' → J w')
  (hline : ∀ (e : Int) (bs : List Value) (w : World),(e = d ∨ e = wrap64 (d + 1)) → IsPg B b bs ln ind beh w → B ≤ w.heap.size → bs.length + (L e).length ≤ 140737488355328 → Calls Tryz.prog 56 #[.pointer (some ⟨b,0,none⟩),.int .i64 e] w fun e' w'=>e' = .returned (.tuple #[]) ∧ IsPg B b (bs ++ Lib.byteCells (L e)) ln ind beh w' ∧ Below B w w' ∧ FrT b w w')
  (hclo : ∀ (i : Nat),i < n → ∀ o,f i = some o → ∀ (bs : List Value) (w : World),IsPg B b bs ln ind beh w → B ≤ w.heap.size → J w → bs.length + o.length ≤ 140737488355328 → Calls Tryz.prog 37 #[.int .i64 i,c1,c2,c3] w fun e w'=>e = .returned (.tuple #[]) ∧ IsPg B b (bs ++ Lib.byteCells o) ln ind beh w' ∧ Below B w w' ∧ FrT b w w')
  (bs : List Value) (w : World) (h : IsPg B b bs ln ind beh w) (hBw : B ≤ w.heap.size) (hj : J w) (out : List UInt8) (ho : joinP (L (wrap64 (d + 1))) f n 0 = some out) (hlen : bs.length + out.length + (if n = 0 then [] else L d).length + 2 ≤ 140737488355328) :
  Calls Tryz.prog 35 #[.pointer (some ⟨b,0,none⟩),.int .u8 123,.int .u8 125,.iface 72 (.agg #[k0,k1,k2,k3,k4,.slice A n c]),.int .i64 d,.func (.func 37) #[] #[c1,c2,c3]] w fun e w'=>e = .returned (.tuple #[]) ∧ IsPg B b (bs ++ Lib.byteCells (123 :: (out ++ ((if n = 0 then [] else L d) ++ [125])))) ln ind beh w' ∧ Below B w w' ∧ FrT b w w':=by
 obtain ⟨sep,hsep⟩ : ∃ sep,L (wrap64 (d + 1)) = sep:=⟨_,rfl⟩
 rw [hsep] at ho
 obtain ⟨tl,htl⟩ : ∃ tl,(if n = 0 then [] else L d) = tl:=⟨_,rfl⟩
 rw [htl] at hlen ⊢
 have HTL:=Aside0.mk htl;have HJ:=Aside0.mk hJ;have HCLO:=Aside0.mk hclo;have HLINE:=Aside0.mk hline;have HP:=Aside0.mk h;have HO:=Aside0.mk ho;have HJ0:=Aside0.mk hj;have HSEP:=Aside0.mk hsep;have hlt:=pg_lt h;clear hJ hclo h ho hj hline hsep htl;go_enter Tryz.func35,Tryz.ntmps35
 go_wp2_with (go_at_call 55;refine (pg_byte B b bs ln ind beh 123 _ HP.out (by omega) hBw).mono ?_)
 rintro e w1 ⟨rfl,h1,b1,f1⟩;have HP1:=Aside0.mk (show IsPg B b (bs ++ Lib.byteCells (123 :: [])) ln ind beh w1 from .inr h1);have HB1:=Aside0.mk b1;have HF1:=Aside0.mk f1;have hz1:=b1.size;have hlt1:=h1.lt;clear h1 b1 f1
 have hm : ∀ (D : Nat) (x : Value) (w : World), (method (D + 1) 72 x "quarry/write.parts").run Tryz.prog w = .ok (165, x) w := fun D x w => by kernel_rfl
 go_wp2_with fail
 refine (table_parts k0 k1 k2 k3 k4 A n c _).mono ?_;rintro e w2 ⟨rfl,bz⟩;have HP2:=Aside0.mk (pg_below HP1.out bz);have HB2:=Aside0.mk (HB1.out.trans (bz.mono (show B ≤ _ by omega)));have HF2:=Aside0.mk (HF1.out.trans (FrT.below (b:=b) bz));have HJ2:=Aside0.mk (HJ.out _ _ HJ0.out HF2.out HB2.out);have hz2:=HB2.out.size;have hlt2:=pg_lt HP2.out;clear bz;go_wp2
 go_loopw [20] (fun v wr=>∃ (i : Nat) (pre r : List UInt8),i ≤ n ∧ v = .int .i64 i ∧ joinP sep f (n - i) i = some r ∧ out = pre ++ r ∧ IsPg B b (bs ++ Lib.byteCells (123 :: pre)) ln ind beh wr ∧ J wr ∧ Below B w wr ∧ FrT b w wr) (fun v _=>n - (intOf v).toNat)
 case atStart=>exact ⟨0,[],out,Nat.zero_le _,rfl,by rw [Nat.sub_zero];exact HO.out,rfl,HP2.out,HJ2.out,HB2.out,HF2.out⟩
 case round =>
  obtain ⟨i,pre,r,hi,rfl,hr,hout,hpg,hjw,hbw,hfw⟩:=hrel;have hzw:=hbw.size;have hltw:=pg_lt hpg;have hoL:=congrArg List.length hout
  rw [List.length_append] at hoL
  by_cases hin : i < n
  ·obtain ⟨m,hm1⟩ : ∃ m,n - i = m + 1:=⟨n - i - 1,by omega⟩
   have hm2 : n - (i + 1) = m:=by omega
   rw [hm1,joinP] at hr
   obtain ⟨o,ho1,hr⟩:=Option.bind_eq_some_iff.mp hr;obtain ⟨r2,ho2,hr⟩:=Option.bind_eq_some_iff.mp hr;have hr:=Option.some.inj hr;have HO1:=Aside0.mk ho1;have HO2:=Aside0.mk ho2;have HR:=Aside0.mk hr;have HOUT:=Aside0.mk hout;have HPG:=Aside0.mk hpg;have HJW:=Aside0.mk hjw;have HBW:=Aside0.mk hbw;have HFW:=Aside0.mk hfw;have hrL:=congrArg List.length hr
   rw [List.length_append,List.length_append,List.length_append] at hrL
   have hL0 : (bs ++ Lib.byteCells (123 :: pre)).length = bs.length + pre.length + 1:=by rw [List.length_append,Lib.byteCells_length,List.length_cons];omega
   clear ho1 ho2 hr hout hpg hjw hbw hfw
   by_cases h0 : i = 0
   ·subst h0
    rw [if_pos rfl,List.length_nil] at hrL
    go_wp2_with fail
    refine (HLINE.out _ _ _ (.inr rfl) HPG.out (by omega) (by rw [HSEP.out,hL0];omega)).mono ?_;rintro e w3 ⟨rfl,h3,b3,f3⟩
    rw [HSEP.out] at h3
    have HP3:=Aside0.mk h3;have HB3:=Aside0.mk (HBW.out.trans b3);have HF3:=Aside0.mk (HFW.out.trans f3);have HJ3:=Aside0.mk (HJ.out _ _ HJW.out f3 b3);have hz3:=HB3.out.size
    have hL3 : (bs ++ Lib.byteCells (123 :: pre) ++ Lib.byteCells sep).length = bs.length + pre.length + 1 + sep.length:=by rw [List.length_append,hL0,Lib.byteCells_length]
    clear h3 b3 f3
    go_wp2_with fail
    refine (HCLO.out 0 hin o HO1.out _ _ HP3.out (by omega) HJ3.out (by rw [hL3];omega)).mono ?_;rintro e w4 ⟨rfl,h4,b4,f4⟩
    have HP4 : Aside0 (IsPg B b (bs ++ Lib.byteCells (123 :: (pre ++ (sep ++ o)))) ln ind beh w4):=by
     refine ⟨?_⟩
     have e : bs ++ Lib.byteCells (123 :: pre) ++ Lib.byteCells sep ++ Lib.byteCells o = bs ++ Lib.byteCells (123 :: (pre ++ (sep ++ o))):=by
      simp only [List.append_assoc,← List.cons_append,Lib.byteCells_append]
     rw [← e];exact h4
    have HB4:=Aside0.mk (HB3.out.trans b4);have HF4:=Aside0.mk (HF3.out.trans f4);have HJ4:=Aside0.mk (HJ.out _ _ HJ3.out f4 b4)
    have hx : out = (pre ++ (sep ++ o)) ++ r2:=by rw [HOUT.out,← HR.out];simp
    clear h4 b4 f4;go_wp2
    go_roundw
    case rel=>exact ⟨0 + 1,pre ++ (sep ++ o),r2,by omega,by go_num,by rw [hm2];exact HO2.out,hx,HP4.out,HJ4.out,HB4.out,HF4.out⟩
    case measure=>simp [intOf];omega
   have hd : decide ((i : Int) > 0) = true:=decide_eq_true (by omega)
   rw [if_neg h0,List.length_singleton] at hrL
   go_wp2_with (go_at_call 55;refine (pg_byte B b _ ln ind beh 44 _ HPG.out (by rw [hL0];omega) (by omega)).mono ?_)
   rintro e w3 ⟨rfl,h3,b3,f3⟩;have HP3:=Aside0.mk (show IsPg B b _ ln ind beh w3 from .inr h3);have HB3:=Aside0.mk (HBW.out.trans b3);have HF3:=Aside0.mk (HFW.out.trans f3);have HJ3:=Aside0.mk (HJ.out _ _ HJW.out f3 b3);have hz3:=HB3.out.size;have hl3:=h3.lt
   have hL3 : (bs ++ Lib.byteCells (123 :: pre) ++ [Value.int .u8 44]).length = bs.length + pre.length + 1 + 1:=by rw [List.length_append,hL0,List.length_singleton]
   clear h3 b3 f3 hd
   go_wp2_with fail
   refine (HLINE.out _ _ _ (.inr rfl) HP3.out (by omega) (by rw [HSEP.out,hL3];omega)).mono ?_;rintro e w3' ⟨rfl,h3,b3,f3⟩
   rw [HSEP.out] at h3
   have HP5:=Aside0.mk h3;have HB5:=Aside0.mk (HB3.out.trans b3);have HF5:=Aside0.mk (HF3.out.trans f3);have HJ5:=Aside0.mk (HJ.out _ _ HJ3.out f3 b3);have hz5:=HB5.out.size
   have hL5 : (bs ++ Lib.byteCells (123 :: pre) ++ [Value.int .u8 44] ++ Lib.byteCells sep).length = bs.length + pre.length + 1 + 1 + sep.length:=by rw [List.length_append,hL3,Lib.byteCells_length]
   clear h3 b3 f3
   go_wp2_with fail
   refine (HCLO.out i hin o HO1.out _ _ HP5.out (by omega) HJ5.out (by rw [hL5];omega)).mono ?_;rintro e w4 ⟨rfl,h4,b4,f4⟩
   have HP4 : Aside0 (IsPg B b (bs ++ Lib.byteCells (123 :: (pre ++ ([44] ++ (sep ++ o))))) ln ind beh w4):=by
    refine ⟨?_⟩
    have e : bs ++ Lib.byteCells (123 :: pre) ++ [Value.int .u8 44] ++ Lib.byteCells sep ++ Lib.byteCells o = bs ++ Lib.byteCells (123 :: (pre ++ ([44] ++ (sep ++ o)))):=by
     have e44 : ([.int .u8 44] : List Value) = Lib.byteCells [44]:=rfl;rw [e44];rw [← List.cons_append,Lib.byteCells_append,Lib.byteCells_append,Lib.byteCells_append];simp only [List.append_assoc]
    rw [← e];exact h4
   have HB4:=Aside0.mk (HB5.out.trans b4);have HF4:=Aside0.mk (HF5.out.trans f4);have HJ4:=Aside0.mk (HJ.out _ _ HJ5.out f4 b4)
   have hx : out = (pre ++ ([44] ++ (sep ++ o))) ++ r2:=by rw [HOUT.out,← HR.out,if_neg h0];simp
   clear h4 b4 f4;go_wp2
   go_roundw
   case rel=>exact ⟨i + 1,pre ++ ([44] ++ (sep ++ o)),r2,by omega,by go_num,by rw [hm2];exact HO2.out,hx,HP4.out,HJ4.out,HB4.out,HF4.out⟩
   case measure=>simp [intOf];omega
  have hie : i = n:=by omega
  subst hie
  have hr0 : r = []:=by rw [Nat.sub_self,joinP] at hr;exact (Option.some.inj hr).symm
  subst hr0;have HPG:=Aside0.mk hpg;have HBW:=Aside0.mk hbw;have HFW:=Aside0.mk hfw
  have hx : pre = out:=by rw [hout,List.append_nil]
  subst hx;clear hr hout hpg hjw hbw hfw
  have hL0 : (bs ++ Lib.byteCells (123 :: pre)).length = bs.length + pre.length + 1:=by rw [List.length_append,Lib.byteCells_length,List.length_cons];omega
  go_wp2_with fail
  refine (table_parts k0 k1 k2 k3 k4 A i c _).mono ?_;rintro e w3 ⟨rfl,bz⟩;have HPG:=Aside0.mk (pg_below HPG.out bz);have HBW:=Aside0.mk (HBW.out.trans (bz.mono (show B ≤ _ by omega)));have HFW:=Aside0.mk (HFW.out.trans (FrT.below (b:=b) bz));have hzw:=HBW.out.size;have hltw:=pg_lt HPG.out;clear bz
  by_cases h0 : i = 0
  ·have htl:=HTL.out
   rw [if_pos h0] at htl
   subst htl;have hd : decide ((i : Int) > 0) = false:=decide_eq_false (by omega)
   go_wp2_with (go_at_call 55;refine (pg_byte B b _ ln ind beh 125 _ HPG.out (by omega) (by omega)).mono ?_)
   rintro e w5 ⟨rfl,h5,b5,f5⟩;go_wp2
   go_end0
   have e : bs ++ Lib.byteCells (123 :: pre) ++ [Value.int .u8 125] = bs ++ Lib.byteCells (123 :: (pre ++ [125])):=by
    have e44 : ([.int .u8 125] : List Value) = Lib.byteCells [125]:=rfl;rw [e44,List.append_assoc,← List.cons_append,Lib.byteCells_append]
   exact ⟨rfl,by first|(rw [← e];exact .inr h5)|(rw [List.nil_append,← e];exact .inr h5),HBW.out.trans b5,HFW.out.trans f5⟩
  have htl:=HTL.out
  rw [if_neg h0] at htl
  subst htl;have hd : decide ((i : Int) > 0) = true:=decide_eq_true (by omega)
  go_wp2_with fail
  refine (HLINE.out _ _ _ (.inl rfl) HPG.out (by omega) (by omega)).mono ?_;rintro e w3 ⟨rfl,h3,b3,f3⟩;have HP3:=Aside0.mk h3;have HB3:=Aside0.mk (HBW.out.trans b3);have HF3:=Aside0.mk (HFW.out.trans f3);have hz3:=HB3.out.size;have hl3:=pg_lt h3
  have hL3 : (bs ++ Lib.byteCells (123 :: pre) ++ Lib.byteCells (L d)).length = bs.length + pre.length + 1 + (L d).length:=by rw [List.length_append,hL0,Lib.byteCells_length]
  clear h3 b3 f3 hd
  go_wp2_with (go_at_call 55;refine (pg_byte B b _ ln ind beh 125 _ HP3.out (by rw [hL3];omega) (by omega)).mono ?_)
  rintro e w5 ⟨rfl,h5,b5,f5⟩;go_wp2
  go_end0
  have e : bs ++ Lib.byteCells (123 :: pre) ++ Lib.byteCells (L d) ++ [Value.int .u8 125] = bs ++ Lib.byteCells (123 :: (pre ++ (L d ++ [125]))):=by
   have e44 : ([.int .u8 125] : List Value) = Lib.byteCells [125]:=rfl;rw [e44,← List.cons_append,Lib.byteCells_append,Lib.byteCells_append];simp only [List.append_assoc]
  exact ⟨rfl,by rw [← e];exact .inr h5,HB3.out.trans b5,HF3.out.trans f5⟩
def ofI (k0 : Int) (k1 : Bool) (k2 k3 : ByteArray) (A4 : Option Addr) (n4 c4 : Nat) (A5 : Option Addr) (n5 c5 : Nat) : Value :=
 if k0 = 1 then .iface 66 (.string ⟨#[110,117,108,108]⟩)
 else if k0 = 2 then .iface 66 (.string (if k1 = true then ⟨#[116,114,117,101]⟩ else ⟨#[102,97,108,115,101]⟩))
 else if k0 = 3 then .iface 66 (.string k2)
 else if k0 = 4 then .iface 67 (.string k3)
 else if k0 = 5 then .iface 69 (.slice A5 n5 c5)
 else .iface 72 (.agg #[.int .i64 k0,.bool k1,.string k2,.string k3,.slice A4 n4 c4,.slice A5 n5 c5])
set_option maxHeartbeats 2000000 in
set_option maxRecDepth 100000 in
theorem of_calls (k0 : Int) (k1 : Bool) (k2 k3 : ByteArray) (A4 : Option Addr) (n4 c4 : Nat) (A5 : Option Addr) (n5 c5 : Nat) (w : World) :
  Calls Tryz.prog 33 #[.agg #[.int .i64 k0,.bool k1,.string k2,.string k3,.slice A4 n4 c4,.slice A5 n5 c5]] w fun e w'=>e = .returned (ofI k0 k1 k2 k3 A4 n4 c4 A5 n5 c5) ∧ Below w.heap.size w w':=by
 have hB : Aside0 (Below w.heap.size w (w.alloc (Obj.cells #[.int .i64 k0,.bool k1,.string k2,.string k3,.slice A4 n4 c4,.slice A5 n5 c5] 25))):=⟨(Below.refl _ _).alloc (Nat.le_refl _) _⟩
 by_cases e1 : k0 = 1
 ·subst e1;go_enter Tryz.func33,Tryz.ntmps33;go_wp2
  go_ret;exact ⟨rfl,hB.out⟩
 by_cases e2 : k0 = 2
 ·subst e2;cases k1
  ·go_enter Tryz.func33,Tryz.ntmps33;go_wp2
   go_ret;exact ⟨rfl,hB.out⟩
  go_enter Tryz.func33,Tryz.ntmps33;go_wp2
  go_ret;exact ⟨rfl,hB.out⟩
 by_cases e3 : k0 = 3
 ·subst e3;go_enter Tryz.func33,Tryz.ntmps33;go_wp2
  go_ret;exact ⟨rfl,hB.out⟩
 by_cases e4 : k0 = 4
 ·subst e4;go_enter Tryz.func33,Tryz.ntmps33;go_wp2
  go_ret;exact ⟨rfl,hB.out⟩
 by_cases e5 : k0 = 5
 ·subst e5;go_enter Tryz.func33,Tryz.ntmps33;go_wp2
  go_ret;exact ⟨rfl,hB.out⟩
 go_enter Tryz.func33,Tryz.ntmps33;go_wp2
 go_ret;exact ⟨by unfold ofI;rw [if_neg e1,if_neg e2,if_neg e3,if_neg e4,if_neg e5];rfl,hB.out⟩
def ValS (W : World) (b : Nat) (ln : Bool) (ind beh : ByteArray) (V : Int → Bool → ByteArray → ByteArray → List ByteArray → List S25 → Int → Option (List UInt8)) : Prop :=
 ∀ (k0 : Int) (k1 : Bool) (k2 k3 : ByteArray) (A4 : Option Addr) (c4 : Nat) (l4 : List ByteArray) (A5 : Option Addr) (c5 : Nat) (l5 : List S25) (d : Int) (bs : List Value) (w : World) (o : List UInt8),
  Kd.C Kd.string W A4 l4.length l4 → l4.length ≤ c4 → Kd.C k25 W A5 l5.length l5 → l5.length ≤ c5 → V k0 k1 k2 k3 l4 l5 d = some o → IsPg W.heap.size b bs ln ind beh w → Below W.heap.size W w → bs.length + o.length ≤ 140737488355328 →
  Calls Tryz.prog 21 #[.pointer (some ⟨b,0,none⟩),.agg #[.int .i64 k0,.bool k1,.string k2,.string k3,.slice A4 l4.length c4,.slice A5 l5.length c5],.int .i64 d] w fun e w'=>e = .returned (.tuple #[]) ∧ IsPg W.heap.size b (bs ++ Lib.byteCells o) ln ind beh w' ∧ Below W.heap.size w w' ∧ FrT b w w'
structure Boxes (b g3 g8 g5 : Nat) (T8 : TypeId) (c8 : Array Value) (d : Int) (w : World) : Prop where
 h3 : w.heap[g3]? = some (.cells #[.pointer (some ⟨b,0,none⟩)] 62 (0,0))
 h8 : w.heap[g8]? = some (.cells c8 T8 (0,0))
 h5 : w.heap[g5]? = some (.cells #[.int .i64 d] 3 (0,0))
theorem Boxes.move {b g3 g8 g5 : Nat} {T8 : TypeId} {c8 : Array Value} {d : Int} {w w' : World} (h : Boxes b g3 g8 g5 T8 c8 d w) (n3 : g3 ≠ b) (n8 : g8 ≠ b) (n5 : g5 ≠ b) (hT : T8 ≠ 5) (f : FrT b w w') : Boxes b g3 g8 g5 T8 c8 d w' :=
 ⟨f.block _ _ _ _ n3 (by decide) h.h3,f.block _ _ _ _ n8 hT h.h8,f.block _ _ _ _ n5 (by decide) h.h5⟩
def valOf (V : Int → Bool → ByteArray → ByteArray → List ByteArray → List S25 → Int → Option (List UInt8)) (x : S25) (d : Int) : Option (List UInt8):=V x.f0 x.f1 x.f2 x.f3 x.f4 x.f5 d
set_option maxHeartbeats 2000000 in
set_option maxRecDepth 100000 in
theorem clo_row (W : World) (b : Nat) (ln : Bool) (ind beh : ByteArray) (V : Int → Bool → ByteArray → ByteArray → List ByteArray → List S25 → Int → Option (List UInt8)) (hV : ValS W b ln ind beh V) (A5 : Option Addr) (c5 : Nat) (l5 : List S25) (hr : Kd.C k25 W A5 l5.length l5) (hc : l5.length ≤ c5) (hn : l5.length ≤ 140737488355328) (g3 g8 g5 : Nat) (d : Int)
  (i : Nat) (hi : i < l5.length) (o : List UInt8) (ho : valOf V (rd_T25 l5 i) (wrap64 (d + 1)) = some o) (bs : List Value) (w : World) (h : IsPg W.heap.size b bs ln ind beh w) (hW : Below W.heap.size W w) (hx : Boxes b g3 g8 g5 69 #[.slice A5 l5.length c5] d w) (hlen : bs.length + o.length ≤ 140737488355328) :
  Calls Tryz.prog 36 #[.int .i64 i,.pointer (some ⟨g3,0,none⟩),.pointer (some ⟨g8,0,none⟩),.pointer (some ⟨g5,0,none⟩)] w fun e w'=>e = .returned (.tuple #[]) ∧ IsPg W.heap.size b (bs ++ Lib.byteCells o) ln ind beh w' ∧ Below W.heap.size w w' ∧ FrT b w w':=by
 have x3 : w.cell? ⟨g3,0,none⟩ = some (.pointer (some ⟨b,0,none⟩)):=(blk_cell hx.h3 0).trans rfl;have x8 : w.cell? ⟨g8,0,none⟩ = some (.slice A5 l5.length c5):=(blk_cell hx.h8 0).trans rfl;have x5 : w.cell? ⟨g5,0,none⟩ = some (.int .i64 d):=(blk_cell hx.h5 0).trans rfl;have p0 : (0 : Int) ≤ (i : Int):=Int.natCast_nonneg i
 have q0 : (i : Int) < (l5.length : Int):=by omega
 obtain ⟨ad,A4',c4',A5',c5',e,y0,y1,y2,y3,y4,y5,m4,n4,m5,n5⟩:=at_T25 hr i p0 q0;cases e
 rw [Int.toNat_natCast] at y0 y1 y2 y3 y4 y5
 replace y0:=(hW.cell (World.block_lt_of_cell? W _ y0)).trans y0;replace y1:=(hW.cell (World.block_lt_of_cell? W _ y1)).trans y1;replace y2:=(hW.cell (World.block_lt_of_cell? W _ y2)).trans y2;replace y3:=(hW.cell (World.block_lt_of_cell? W _ y3)).trans y3;replace y4:=(hW.cell (World.block_lt_of_cell? W _ y4)).trans y4;replace y5:=(hW.cell (World.block_lt_of_cell? W _ y5)).trans y5;have N4:=Aside0.mk n4;have M4:=Aside0.mk m4;have N5:=Aside0.mk n5;have M5:=Aside0.mk m5;have HV:=Aside0.mk hV;have HO:=Aside0.mk ho;have HP:=Aside0.mk h;have HW:=Aside0.mk hW;replace p0:=eq_true p0;replace q0:=eq_true q0;clear hV ho h hW hx hr n4 m4 n5 m5;go_enter Tryz.func36,Tryz.ntmps36;have hu25:=Tryz.underlying25
 go_still_tail 7,(by kernel_rfl)
 change wpList _ _ _ _ _ w.drew
 go_wp2_with fail
 refine (HV.out _ _ _ _ _ _ _ _ _ _ _ bs _ o N4.out M4.out N5.out M5.out HO.out (pg_below HP.out (Below.drew (Below.refl _ _))) (Below.drew HW.out) hlen).mono ?_;rintro e w2 ⟨rfl,h2,b2,f2⟩;go_wp2
 go_end0
 exact ⟨rfl,h2,(Below.drew (Below.refl _ w)).trans b2,(FrT.drew w).trans f2⟩
set_option maxHeartbeats 2000000 in
set_option maxRecDepth 100000 in
theorem clo_tab (W : World) (b : Nat) (ln : Bool) (ind beh : ByteArray) (V : Int → Bool → ByteArray → ByteArray → List ByteArray → List S25 → Int → Option (List UInt8)) (hV : ValS W b ln ind beh V) (k0 : Int) (k1 : Bool) (k2 k3 : ByteArray) (A4 : Option Addr) (c4 : Nat) (l4 : List ByteArray) (hr4 : Kd.C Kd.string W A4 l4.length l4) (A5 : Option Addr) (c5 : Nat) (l5 : List S25) (hr : Kd.C k25 W A5 l5.length l5) (hn : l5.length ≤ 140737488355328) (g3 g8 g5 : Nat) (d : Int) (n3 : g3 ≠ b) (n8 : g8 ≠ b) (n5 : g5 ≠ b)
  (i : Nat) (hi : i < l5.length) (hi4 : i < l4.length) (hs : (rdOf ByteArray.empty l4 i).size ≤ 1099511627776) (o : List UInt8) (ho : valOf V (rd_T25 l5 i) (wrap64 (d + 1)) = some o) (bs : List Value) (w : World) (h : IsPg W.heap.size b bs ln ind beh w) (hW : Below W.heap.size W w) (hx : Boxes b g3 g8 g5 72 #[.int .i64 k0,.bool k1,.string k2,.string k3,.slice A4 l4.length c4,.slice A5 l5.length c5] d w) (hlen : bs.length + ((quoL (rdOf ByteArray.empty l4 i)).length + beh.size + o.length) ≤ 140737488355328) :
  Calls Tryz.prog 37 #[.int .i64 i,.pointer (some ⟨g3,0,none⟩),.pointer (some ⟨g8,0,none⟩),.pointer (some ⟨g5,0,none⟩)] w fun e w'=>e = .returned (.tuple #[]) ∧ IsPg W.heap.size b (bs ++ Lib.byteCells (quoL (rdOf ByteArray.empty l4 i) ++ (beh.data.toList ++ o))) ln ind beh w' ∧ Below W.heap.size w w' ∧ FrT b w w':=by
 have x3 : w.drew.cell? ⟨g3,0,none⟩ = some (.pointer (some ⟨b,0,none⟩)):=(blk_cell hx.h3 0).trans rfl;have x84 : w.drew.cell? ⟨g8,4,none⟩ = some (.slice A4 l4.length c4):=(blk_cell hx.h8 4).trans rfl;have p0 : (0 : Int) ≤ (i : Int):=Int.natCast_nonneg i
 have q0 : (i : Int) < (l5.length : Int):=by omega
 have q4 : (i : Int) < (l4.length : Int):=by omega
 obtain ⟨ad4,e4,t4⟩:=Kd.at_string hr4 i p0 q4;obtain ⟨ad,A4',c4',A5',c5',e,y0,y1,y2,y3,y4,y5,m4,n4,m5,n5'⟩:=at_T25 hr i p0 q0;cases e
 rw [Int.toNat_natCast] at y0 y1 y2 y3 y4 y5
 cases e4
 rw [Int.toNat_natCast] at t4
 have t4 : w.drew.cell? _ = some _:=(hW.cell (World.block_lt_of_cell? W _ t4)).trans t4;have Y : Aside0 (∀ w',Below W.heap.size W w' → _ ∧ _ ∧ _ ∧ _ ∧ _ ∧ _):=⟨fun w' hW'=>⟨(hW'.cell (World.block_lt_of_cell? W _ y0)).trans y0,(hW'.cell (World.block_lt_of_cell? W _ y1)).trans y1,(hW'.cell (World.block_lt_of_cell? W _ y2)).trans y2,(hW'.cell (World.block_lt_of_cell? W _ y3)).trans y3,(hW'.cell (World.block_lt_of_cell? W _ y4)).trans y4,(hW'.cell (World.block_lt_of_cell? W _ y5)).trans y5⟩⟩;have N4:=Aside0.mk n4;have M4:=Aside0.mk m4;have N5:=Aside0.mk n5';have M5:=Aside0.mk m5;have HV:=Aside0.mk hV;have HO:=Aside0.mk ho;have HP:=Aside0.mk (pg_below h (Below.drew (Below.refl _ _)));have HW:=Aside0.mk (Below.drew hW);have HX:=Aside0.mk (hx.move n3 n8 n5 (by decide) (FrT.drew w));have hzw:=hW.size;replace p0:=eq_true p0;replace q0:=eq_true q0;replace q4:=eq_true q4;clear hV ho h hW hx hr hr4 n4 m4 n5' m5 y0 y1 y2 y3 y4 y5;go_enter Tryz.func37,Tryz.ntmps37
 go_upto_region 0 with fail
 go_still_tail 7,(by kernel_rfl)
 change wpList _ _ _ _ _ w.drew
 go_wp2_with fail
 refine (pg_quoted W.heap.size b bs ln ind beh _ w.drew HP.out hs (by omega) hzw).mono ?_;rintro e w2 ⟨rfl,h2,b2,f2⟩;have X2:=(HX.out.move n3 n8 n5 (by decide) f2);have x3 : w2.drew.cell? ⟨g3,0,none⟩ = some (.pointer (some ⟨b,0,none⟩)):=(blk_cell X2.h3 0).trans rfl
 have xb : w2.drew.cell? ⟨b,4,none⟩ = some (.string beh):=by
  obtain ⟨_,v,hb,_⟩:=h2;exact (blk_cell (show w2.drew.heap[b]? = _ from hb) 4).trans rfl
 have HP2:=Aside0.mk (pg_below (show IsPg W.heap.size b _ ln ind beh w2 from .inr h2) (Below.drew (Below.refl _ _)));have HW2:=Aside0.mk (Below.drew (HW.out.trans b2));have HB2:=Aside0.mk (Below.drew ((Below.drew (Below.refl W.heap.size w)).trans b2));have HF2:=Aside0.mk (((FrT.drew (b:=b) w).trans f2).trans (FrT.drew w2));have HX2:=Aside0.mk (X2.move n3 n8 n5 (by decide) (FrT.drew w2));have hz2:=HW2.out.size;have hl2:=h2.lt;clear h2 b2 f2 X2 x84 t4
 go_upto_region 1 with fail
 go_still_tail 7,(by kernel_rfl)
 change wpList _ _ _ _ _ w2.drew
 go_wp2_with fail
 refine (pg_string W.heap.size b _ ln ind beh _ w2.drew HP2.out (by rw [List.length_append,Lib.byteCells_length];omega) hz2).mono ?_;rintro e w3 ⟨rfl,h3,b3,f3⟩;have X3:=(HX2.out.move n3 n8 n5 (by decide) f3);have x3 : w3.drew.cell? ⟨g3,0,none⟩ = some (.pointer (some ⟨b,0,none⟩)):=(blk_cell X3.h3 0).trans rfl;have x85 : w3.drew.cell? ⟨g8,5,none⟩ = some (.slice (some ad) l5.length c5):=(blk_cell X3.h8 5).trans rfl;have x5 : w3.drew.cell? ⟨g5,0,none⟩ = some (.int .i64 d):=(blk_cell X3.h5 0).trans rfl;have HP3:=Aside0.mk (pg_below (show IsPg W.heap.size b _ ln ind beh w3 from .inr h3) (Below.drew (Below.refl _ _)));have HW3:=Aside0.mk (Below.drew (HW2.out.trans b3));have HB3:=Aside0.mk (Below.drew (HB2.out.trans b3));have HF3:=Aside0.mk ((HF2.out.trans f3).trans (FrT.drew w3));have hz3:=HW3.out.size;obtain ⟨y0,y1,y2,y3,y4,y5⟩:=Y.out _ HW3.out;clear h3 b3 f3 X3 xb;have hu25:=Tryz.underlying25
 go_upto_region 2 with fail
 go_still_tail 9,(by kernel_rfl)
 change wpList _ _ _ _ _ w3.drew
 go_wp2_with fail
 refine (HV.out _ _ _ _ _ _ _ _ _ _ _ _ _ o N4.out M4.out N5.out M5.out HO.out HP3.out HW3.out (by rw [List.length_append,List.length_append,Lib.byteCells_length,Lib.strCells_length];omega)).mono ?_;rintro e w4 ⟨rfl,h4,b4,f4⟩;go_wp2
 go_end0
 have e : bs ++ Lib.byteCells (quoL (rdOf ByteArray.empty l4 ↑i)) ++ Lib.strCells beh ++ Lib.byteCells o = bs ++ Lib.byteCells (quoL (rdOf ByteArray.empty l4 ↑i) ++ (beh.data.toList ++ o)):=by
  rw [Lib.byteCells_append,Lib.byteCells_append];simp only [List.append_assoc];rfl
 exact ⟨rfl,by rw [← e];exact h4,HB3.out.trans b4,HF3.out.trans f4⟩
theorem ta_ww (v : Value) (w : World) : (Instr.typeAssert (.iface 66 v) 64 66 true).run Tryz.prog w = .ok (.tuple #[v,.bool true]) w:=by kernel_rfl
theorem ta_tw (v : Value) (w : World) : (Instr.typeAssert (.iface 67 v) 64 66 true).run Tryz.prog w = .ok (.tuple #[.string ⟨#[]⟩,.bool false]) w:=by kernel_rfl
theorem ta_rw (v : Value) (w : World) : (Instr.typeAssert (.iface 69 v) 64 66 true).run Tryz.prog w = .ok (.tuple #[.string ⟨#[]⟩,.bool false]) w:=by kernel_rfl
theorem ta_bw (v : Value) (w : World) : (Instr.typeAssert (.iface 72 v) 64 66 true).run Tryz.prog w = .ok (.tuple #[.string ⟨#[]⟩,.bool false]) w:=by kernel_rfl
theorem ta_tt (v : Value) (w : World) : (Instr.typeAssert (.iface 67 v) 64 67 true).run Tryz.prog w = .ok (.tuple #[v,.bool true]) w:=by kernel_rfl
theorem ta_rt (v : Value) (w : World) : (Instr.typeAssert (.iface 69 v) 64 67 true).run Tryz.prog w = .ok (.tuple #[.string ⟨#[]⟩,.bool false]) w:=by kernel_rfl
theorem ta_bt (v : Value) (w : World) : (Instr.typeAssert (.iface 72 v) 64 67 true).run Tryz.prog w = .ok (.tuple #[.string ⟨#[]⟩,.bool false]) w:=by kernel_rfl
theorem ta_rr (v : Value) (w : World) : (Instr.typeAssert (.iface 69 v) 64 69 true).run Tryz.prog w = .ok (.tuple #[v,.bool true]) w:=by kernel_rfl
theorem ta_br (v : Value) (w : World) : (Instr.typeAssert (.iface 72 v) 64 69 true).run Tryz.prog w = .ok (.tuple #[.slice none 0 0,.bool false]) w:=by kernel_rfl
theorem ta_bb (v : Value) (w : World) : (Instr.typeAssert (.iface 72 v) 64 72 true).run Tryz.prog w = .ok (.tuple #[v,.bool true]) w:=by kernel_rfl
theorem joinP_len {sep : List UInt8} {f : Nat → Option (List UInt8)} : ∀ {d i : Nat} {o : List UInt8},joinP sep f d i = some o → d ≤ o.length + 1 ∧ (i ≠ 0 → d ≤ o.length)
 | 0,_,_,_=>⟨Nat.zero_le _,fun _=>Nat.zero_le _⟩
 | d + 1,i,o,h=>by
  rw [joinP] at h
  obtain ⟨x,hx,h⟩:=Option.bind_eq_some_iff.mp h;obtain ⟨r,hr,h⟩:=Option.bind_eq_some_iff.mp h;have h:=Option.some.inj h;obtain ⟨q1,q2⟩:=joinP_len hr;have q3:=q2 (Nat.succ_ne_zero i);have hl:=congrArg List.length h
  rw [List.length_append,List.length_append,List.length_append] at hl
  refine ⟨by omega,fun hi=>?_⟩
  rw [if_neg hi,List.length_singleton] at hl
  omega
def valN (L : Int → List UInt8) (beh : ByteArray) (g : Int → Bool) (V : Int → Bool → ByteArray → ByteArray → List ByteArray → List S25 → Int → Option (List UInt8)) (k0 : Int) (k1 : Bool) (k2 k3 : ByteArray) (l4 : List ByteArray) (l5 : List S25) (d : Int) : Option (List UInt8) :=
 if k0 = 1 then some [110,117,108,108]
 else if k0 = 2 then some (if k1 = true then [116,114,117,101] else [102,97,108,115,101])
 else if k0 = 3 then some k2.data.toList
 else if k0 = 4 then (if k3.size ≤ 1099511627776 then some (quoL k3) else none)
 else if g d = true ∧ g (wrap64 (d + 1)) = true then
  (if k0 = 5 then (joinP (L (wrap64 (d + 1))) (fun i=>valOf V (rd_T25 l5 i) (wrap64 (d + 1))) l5.length 0).bind fun o=>some (91 :: (o ++ ((if l5.length = 0 then [] else L d) ++ [93])))
   else if l5.length ≤ l4.length then (joinP (L (wrap64 (d + 1))) (fun i=>if (rdOf ByteArray.empty l4 i).size ≤ 1099511627776 then (valOf V (rd_T25 l5 i) (wrap64 (d + 1))).bind fun o=>some (quoL (rdOf ByteArray.empty l4 i) ++ (beh.data.toList ++ o)) else none) l5.length 0).bind fun o=>some (123 :: (o ++ ((if l5.length = 0 then [] else L d) ++ [125])))
   else none)
 else none
def valP (L : Int → List UInt8) (beh : ByteArray) (g : Int → Bool) : Nat → Int → Bool → ByteArray → ByteArray → List ByteArray → List S25 → Int → Option (List UInt8)
 | 0=>fun _ _ _ _ _ _ _=>none
 | k + 1=>valN L beh g (valP L beh g k)
def LineS (B b : Nat) (ln : Bool) (ind beh : ByteArray) (L : Int → List UInt8) (g : Int → Bool) : Prop :=
 ∀ (e : Int) (bs : List Value) (w : World),g e = true → IsPg B b bs ln ind beh w → B ≤ w.heap.size → bs.length + (L e).length ≤ 140737488355328 → Calls Tryz.prog 56 #[.pointer (some ⟨b,0,none⟩),.int .i64 e] w fun e' w'=>e' = .returned (.tuple #[]) ∧ IsPg B b (bs ++ Lib.byteCells (L e)) ln ind beh w' ∧ Below B w w' ∧ FrT b w w'
set_option maxHeartbeats 4000000 in
set_option maxRecDepth 100000 in
theorem val_step (W : World) (b : Nat) (ln : Bool) (ind beh : ByteArray) (L : Int → List UInt8) (g : Int → Bool) (hL : LineS W.heap.size b ln ind beh L g) (V : Int → Bool → ByteArray → ByteArray → List ByteArray → List S25 → Int → Option (List UInt8)) (hV : ValS W b ln ind beh V) : ValS W b ln ind beh (valN L beh g V):=by
 intro k0 k1 k2 k3 A4 c4 l4 A5 c5 l5 d bs w o hr4 hc4 hr5 hc5 ho h hW hlen;have HL:=Aside0.mk hL;have HV:=Aside0.mk hV;have HR4:=Aside0.mk hr4;have HR5:=Aside0.mk hr5;have HO:=Aside0.mk ho;have HP:=Aside0.mk h;have HW:=Aside0.mk hW;have hzw:=hW.size;have hlt:=pg_lt h;clear hL hV hr4 hr5 ho h hW
 have F0 : Aside0 (∀ c w1,Below (((w.alloc (.cells #[.pointer (some ⟨b,0,none⟩)] 62)).alloc (.cells c 25)).alloc (.cells #[.int .i64 d] 3)).heap.size (((w.alloc (.cells #[.pointer (some ⟨b,0,none⟩)] 62)).alloc (.cells c 25)).alloc (.cells #[.int .i64 d] 3)) w1 →
   w1.heap[w.heap.size]? = some (.cells #[.pointer (some ⟨b,0,none⟩)] 62 (0,0)) ∧ w1.heap[w.heap.size + 1 + 1]? = some (.cells #[.int .i64 d] 3 (0,0)) ∧ Below w.heap.size w w1):=by
  refine ⟨fun c w1 hb=>⟨blk_below (blk_alloc (blk_alloc (blk_new w _) _) _) hb,?_,?_⟩⟩
  ·have hk:=blk_new ((w.alloc (.cells #[.pointer (some ⟨b,0,none⟩)] 62)).alloc (.cells c 25)) (.cells #[.int .i64 d] 3)
   have hz : ((w.alloc (.cells #[.pointer (some ⟨b,0,none⟩)] 62)).alloc (.cells c 25)).heap.size = w.heap.size + 1 + 1:=by simp
   rw [hz] at hk
   exact blk_below hk hb
  exact (below_alloc (below_alloc (below_alloc (Below.refl _ w) _) _) _).trans (hb.mono (by simp;omega))
 go_enter Tryz.func21,Tryz.ntmps21
 go_wp2_with fail
 refine (of_calls k0 k1 k2 k3 A4 _ c4 A5 _ c5 _).mono ?_;rintro e w1 ⟨rfl,b1⟩;obtain ⟨z3,z5,z1⟩:=F0.out _ _ b1;have HP1:=Aside0.mk (pg_below HP.out z1);have HB1:=Aside0.mk (z1.mono hzw);have HW1:=Aside0.mk (HW.out.trans (z1.mono hzw));have HF1:=Aside0.mk (FrT.below (b:=b) z1);have Z3:=Aside0.mk z3;have Z5:=Aside0.mk z5;have c3 : w1.cell? ⟨w.heap.size,0,none⟩ = some (.pointer (some ⟨b,0,none⟩)):=(blk_cell z3 0).trans rfl;have c5' : w1.cell? ⟨w.heap.size + 1 + 1,0,none⟩ = some (.int .i64 d):=(blk_cell z5 0).trans rfl;have hz1:=HW1.out.size;have hlt1:=pg_lt HP1.out;have hzz:=z1.size;clear b1 z1 z3 z5 F0;have H:=HO.out
 unfold valN at H
 by_cases e1 : k0 = 1
 ·subst e1
  rw [if_pos rfl] at H
  have ho:=Aside0.mk (Option.some.inj H);clear HO H;have hof : ofI 1 k1 k2 k3 A4 l4.length c4 A5 l5.length c5 = .iface 66 (.string ⟨#[110,117,108,108]⟩):=rfl;rw [hof]
  go_wp2_with fail
  rw [ta_ww];simp only [Result.andThen];rw [Oper.upon_value]
  go_wp2_with fail
  refine (pg_string W.heap.size b bs ln ind beh ⟨#[110,117,108,108]⟩ w1 HP1.out (by rw [← ho.out] at hlen;exact hlen) hz1).mono ?_;rintro e w2 ⟨rfl,h2,b2,f2⟩;go_wp2
  go_end0
  exact ⟨rfl,by rw [← ho.out];exact .inr h2,HB1.out.trans b2,HF1.out.trans f2⟩
 by_cases e2 : k0 = 2
 ·subst e2
  rw [if_neg e1,if_pos rfl] at H
  have ho:=Aside0.mk (Option.some.inj H);clear HO H;cases k1
  ·have hof : ofI 2 false k2 k3 A4 l4.length c4 A5 l5.length c5 = .iface 66 (.string ⟨#[102,97,108,115,101]⟩):=rfl;rw [hof]
   go_wp2_with fail
   rw [ta_ww];simp only [Result.andThen];rw [Oper.upon_value]
   go_wp2_with fail
   refine (pg_string W.heap.size b bs ln ind beh ⟨#[102,97,108,115,101]⟩ w1 HP1.out (by rw [← ho.out] at hlen;exact hlen) hz1).mono ?_;rintro e w2 ⟨rfl,h2,b2,f2⟩;go_wp2
   go_end0
   exact ⟨rfl,by rw [← ho.out];exact .inr h2,HB1.out.trans b2,HF1.out.trans f2⟩
  have hof : ofI 2 true k2 k3 A4 l4.length c4 A5 l5.length c5 = .iface 66 (.string ⟨#[116,114,117,101]⟩):=rfl;rw [hof]
  go_wp2_with fail
  rw [ta_ww];simp only [Result.andThen];rw [Oper.upon_value]
  go_wp2_with fail
  refine (pg_string W.heap.size b bs ln ind beh ⟨#[116,114,117,101]⟩ w1 HP1.out (by rw [← ho.out] at hlen;exact hlen) hz1).mono ?_;rintro e w2 ⟨rfl,h2,b2,f2⟩;go_wp2
  go_end0
  exact ⟨rfl,by rw [← ho.out];exact .inr h2,HB1.out.trans b2,HF1.out.trans f2⟩
 by_cases e3 : k0 = 3
 ·subst e3
  rw [if_neg e1,if_neg e2,if_pos rfl] at H
  have ho:=Aside0.mk (Option.some.inj H);clear HO H;have hof : ofI 3 k1 k2 k3 A4 l4.length c4 A5 l5.length c5 = .iface 66 (.string k2):=rfl;rw [hof]
  go_wp2_with fail
  rw [ta_ww];simp only [Result.andThen];rw [Oper.upon_value]
  go_wp2_with fail
  refine (pg_string W.heap.size b bs ln ind beh k2 w1 HP1.out (by rw [← ho.out,data_length] at hlen;exact hlen) hz1).mono ?_;rintro e w2 ⟨rfl,h2,b2,f2⟩;go_wp2
  go_end0
  exact ⟨rfl,by rw [← ho.out];exact .inr h2,HB1.out.trans b2,HF1.out.trans f2⟩
 by_cases e4 : k0 = 4
 ·subst e4
  rw [if_neg e1,if_neg e2,if_neg e3,if_pos rfl] at H
  by_cases hs : k3.size ≤ 1099511627776
  ·rw [if_pos hs] at H
   have ho:=Aside0.mk (Option.some.inj H);clear HO H;have hof : ofI 4 k1 k2 k3 A4 l4.length c4 A5 l5.length c5 = .iface 67 (.string k3):=rfl;rw [hof]
   go_wp2_with fail
   rw [ta_tw];simp only [Result.andThen];rw [Oper.upon_value]
   go_wp2_with fail
   rw [ta_tt];simp only [Result.andThen];rw [Oper.upon_value]
   go_wp2_with fail
   refine (pg_quoted W.heap.size b bs ln ind beh k3 w1 HP1.out hs (by rw [← ho.out] at hlen;exact hlen) hz1).mono ?_;rintro e w2 ⟨rfl,h2,b2,f2⟩;go_wp2
   go_end0
   exact ⟨rfl,by rw [← ho.out];exact .inr h2,HB1.out.trans b2,HF1.out.trans f2⟩
  rw [if_neg hs] at H
  cases H
 rw [if_neg e1,if_neg e2,if_neg e3,if_neg e4] at H
 by_cases hg : g d = true ∧ g (wrap64 (d + 1)) = true
 ·rw [if_pos hg] at H
  by_cases e5 : k0 = 5
  ·subst e5
   rw [if_pos rfl] at H
   obtain ⟨o',ho',H⟩:=Option.bind_eq_some_iff.mp H;have ho:=Aside0.mk (Option.some.inj H);have HO':=Aside0.mk ho';clear HO H ho';have hof : ofI 5 k1 k2 k3 A4 l4.length c4 A5 l5.length c5 = .iface 69 (.slice A5 l5.length c5):=rfl;rw [hof]
   go_wp2_with fail
   rw [ta_rw];simp only [Result.andThen];rw [Oper.upon_value]
   go_wp2_with fail
   rw [ta_rt];simp only [Result.andThen];rw [Oper.upon_value]
   go_wp2_with fail
   rw [ta_rr];simp only [Result.andThen];rw [Oper.upon_value]
   go_upto_region 10 with fail
   obtain ⟨w2,hw2⟩ : ∃ w2,w2 = w1.alloc (.cells #[.slice A5 l5.length c5] 69):=⟨_,rfl⟩
   rw [← hw2];have BX : Boxes b w.heap.size w1.heap.size (w.heap.size + 1 + 1) 69 #[.slice A5 l5.length c5] d w2:=⟨by rw [hw2];exact blk_alloc Z3.out _,by rw [hw2];exact blk_new w1 _,by rw [hw2];exact blk_alloc Z5.out _⟩
   have bz : Below w1.heap.size w1 w2:=by rw [hw2];exact below_alloc (Below.refl _ w1) _
   have d3 : w2.cell? ⟨w.heap.size,0,none⟩ = some (.pointer (some ⟨b,0,none⟩)):=(blk_cell BX.h3 0).trans rfl;have d80 : w2.cell? ⟨w1.heap.size,0,none⟩ = some (.slice A5 l5.length c5):=(blk_cell BX.h8 0).trans rfl;have d5 : w2.cell? ⟨w.heap.size + 1 + 1,0,none⟩ = some (.int .i64 d):=(blk_cell BX.h5 0).trans rfl;have HP2:=Aside0.mk (pg_below HP1.out bz);have HB2:=Aside0.mk (HB1.out.trans (bz.mono hz1));have HW2:=Aside0.mk (HW1.out.trans (bz.mono hz1));have HF2:=Aside0.mk (HF1.out.trans (FrT.below (b:=b) bz));have HBX:=Aside0.mk BX;have hz2:=HW2.out.size;have hlt2:=pg_lt HP2.out;have nn : Aside0 (w.heap.size ≠ b ∧ w1.heap.size ≠ b ∧ w.heap.size + 1 + 1 ≠ b):=⟨by omega,by omega,by omega⟩;clear bz BX c3 c5' hw2;have hL:=congrArg List.length ho.out
   rw [List.length_cons,List.length_append,List.length_append,List.length_singleton] at hL
   have hq:=(joinP_len HO'.out).1;have hol:=Aside0.mk (show bs.length + o'.length + (if l5.length = 0 then [] else L d).length + 2 ≤ 140737488355328 by omega)
   have hn : l5.length ≤ 140737488355328:=by omega
   clear hL hq
   go_wp2_with fail
   refine (pg_list_row W.heap.size b ln ind beh d A5 c5 l5.length hn (.pointer (some ⟨w.heap.size,0,none⟩)) (.pointer (some ⟨w1.heap.size,0,none⟩)) (.pointer (some ⟨w.heap.size + 1 + 1,0,none⟩)) L _ (fun w'=>Below W.heap.size W w' ∧ Boxes b w.heap.size w1.heap.size (w.heap.size + 1 + 1) 69 #[.slice A5 l5.length c5] d w')
    (fun u u' h f bb=>⟨h.1.trans bb,h.2.move nn.out.1 nn.out.2.1 nn.out.2.2 (by decide) f⟩)
    (fun e bs u he h hB hl=>HL.out e bs u (by rcases he with rfl|rfl;exact hg.1;exact hg.2) h hB hl)
    (fun i hi o ho bs u h hB hJ hl=>clo_row W b ln ind beh V HV.out A5 c5 l5 HR5.out hc5 hn w.heap.size w1.heap.size (w.heap.size + 1 + 1) d i hi o ho bs u h hJ.1 hJ.2 hl)
    bs w2 HP2.out hz2 ⟨HW2.out,HBX.out⟩ o' HO'.out hol.out).mono ?_
   rintro e w3 ⟨rfl,h3,b3,f3⟩;go_wp2
   go_end0
   exact ⟨rfl,by rw [← ho.out];exact h3,HB2.out.trans b3,HF2.out.trans f3⟩
  rw [if_neg e5] at H
  by_cases h45 : l5.length ≤ l4.length
  ·rw [if_pos h45] at H
   obtain ⟨o',ho',H⟩:=Option.bind_eq_some_iff.mp H;have ho:=Aside0.mk (Option.some.inj H);have HO':=Aside0.mk ho';clear HO H ho'
   have hof : ofI k0 k1 k2 k3 A4 l4.length c4 A5 l5.length c5 = .iface 72 (.agg #[.int .i64 k0,.bool k1,.string k2,.string k3,.slice A4 l4.length c4,.slice A5 l5.length c5]):=by unfold ofI;rw [if_neg e1,if_neg e2,if_neg e3,if_neg e4,if_neg e5]
   rw [hof]
   go_wp2_with fail
   rw [ta_bw];simp only [Result.andThen];rw [Oper.upon_value]
   go_wp2_with fail
   rw [ta_bt];simp only [Result.andThen];rw [Oper.upon_value]
   go_wp2_with fail
   rw [ta_br];simp only [Result.andThen];rw [Oper.upon_value]
   go_wp2_with fail
   rw [ta_bb];simp only [Result.andThen];rw [Oper.upon_value]
   go_upto_region 13 with fail
   obtain ⟨w2,hw2⟩ : ∃ w2,w2 = w1.alloc (.cells #[.int .i64 k0,.bool k1,.string k2,.string k3,.slice A4 l4.length c4,.slice A5 l5.length c5] 72):=⟨_,rfl⟩
   rw [← hw2];have BX : Boxes b w.heap.size w1.heap.size (w.heap.size + 1 + 1) 72 #[.int .i64 k0,.bool k1,.string k2,.string k3,.slice A4 l4.length c4,.slice A5 l5.length c5] d w2:=⟨by rw [hw2];exact blk_alloc Z3.out _,by rw [hw2];exact blk_new w1 _,by rw [hw2];exact blk_alloc Z5.out _⟩
   have bz : Below w1.heap.size w1 w2:=by rw [hw2];exact below_alloc (Below.refl _ w1) _
   have d3 : w2.cell? ⟨w.heap.size,0,none⟩ = some (.pointer (some ⟨b,0,none⟩)):=(blk_cell BX.h3 0).trans rfl;have d80 : w2.cell? ⟨w1.heap.size,0,none⟩ = some (.int .i64 k0):=(blk_cell BX.h8 0).trans rfl;have d81 : w2.cell? ⟨w1.heap.size,1,none⟩ = some (.bool k1):=(blk_cell BX.h8 1).trans rfl;have d82 : w2.cell? ⟨w1.heap.size,2,none⟩ = some (.string k2):=(blk_cell BX.h8 2).trans rfl;have d83 : w2.cell? ⟨w1.heap.size,3,none⟩ = some (.string k3):=(blk_cell BX.h8 3).trans rfl;have d84 : w2.cell? ⟨w1.heap.size,4,none⟩ = some (.slice A4 l4.length c4):=(blk_cell BX.h8 4).trans rfl;have d85 : w2.cell? ⟨w1.heap.size,5,none⟩ = some (.slice A5 l5.length c5):=(blk_cell BX.h8 5).trans rfl;have d5 : w2.cell? ⟨w.heap.size + 1 + 1,0,none⟩ = some (.int .i64 d):=(blk_cell BX.h5 0).trans rfl;have HP2:=Aside0.mk (pg_below HP1.out bz);have HB2:=Aside0.mk (HB1.out.trans (bz.mono hz1));have HW2:=Aside0.mk (HW1.out.trans (bz.mono hz1));have HF2:=Aside0.mk (HF1.out.trans (FrT.below (b:=b) bz));have HBX:=Aside0.mk BX;have hz2:=HW2.out.size;have hlt2:=pg_lt HP2.out;have nn : Aside0 (w.heap.size ≠ b ∧ w1.heap.size ≠ b ∧ w.heap.size + 1 + 1 ≠ b):=⟨by omega,by omega,by omega⟩;clear bz BX c3 c5' hw2;have hL:=congrArg List.length ho.out
   rw [List.length_cons,List.length_append,List.length_append,List.length_singleton] at hL
   have hq:=(joinP_len HO'.out).1;have hol:=Aside0.mk (show bs.length + o'.length + (if l5.length = 0 then [] else L d).length + 2 ≤ 140737488355328 by omega)
   have hn : l5.length ≤ 140737488355328:=by omega
   clear hL hq;have hu25:=Tryz.underlying25;have hu67:=Tryz.underlying72
   go_wp2_with fail
   refine (pg_list_table W.heap.size b ln ind beh d (.int .i64 k0) (.bool k1) (.string k2) (.string k3) (.slice A4 l4.length c4) A5 c5 l5.length hn (.pointer (some ⟨w.heap.size,0,none⟩)) (.pointer (some ⟨w1.heap.size,0,none⟩)) (.pointer (some ⟨w.heap.size + 1 + 1,0,none⟩)) L _ (fun w'=>Below W.heap.size W w' ∧ Boxes b w.heap.size w1.heap.size (w.heap.size + 1 + 1) 72 #[.int .i64 k0,.bool k1,.string k2,.string k3,.slice A4 l4.length c4,.slice A5 l5.length c5] d w')
    (fun u u' h f bb=>⟨h.1.trans bb,h.2.move nn.out.1 nn.out.2.1 nn.out.2.2 (by decide) f⟩)
    (fun e bs u he h hB hl=>HL.out e bs u (by rcases he with rfl|rfl;exact hg.1;exact hg.2) h hB hl)
    (fun i hi o ho bs u h hB hJ hl=>by
     by_cases hs : (rdOf ByteArray.empty l4 i).size ≤ 1099511627776
     ·have ho:=(if_pos hs).symm.trans ho;obtain ⟨o2,ho2,ho3⟩:=Option.bind_eq_some_iff.mp ho;have ho3:=Option.some.inj ho3
      rw [← ho3] at hl ⊢
      rw [List.length_append,List.length_append,data_length] at hl
      exact clo_tab W b ln ind beh V HV.out k0 k1 k2 k3 A4 c4 l4 HR4.out A5 c5 l5 HR5.out hn w.heap.size w1.heap.size (w.heap.size + 1 + 1) d nn.out.1 nn.out.2.1 nn.out.2.2 i hi (by omega) hs o2 ho2 bs u h hJ.1 hJ.2 (by omega)
     exact absurd ((if_neg hs).symm.trans ho) (fun h=>by cases h))
    bs w2 HP2.out hz2 ⟨HW2.out,HBX.out⟩ o' HO'.out hol.out).mono ?_
   rintro e w3 ⟨rfl,h3,b3,f3⟩;go_wp2
   go_end0
   exact ⟨rfl,by rw [← ho.out];exact h3,HB2.out.trans b3,HF2.out.trans f3⟩
  rw [if_neg h45] at H
  cases H
 rw [if_neg hg] at H
 cases H
theorem joinP_mono {sep : List UInt8} {f f' : Nat → Option (List UInt8)} (h : ∀ i,LeO (f i) (f' i)) : ∀ d i,LeO (joinP sep f d i) (joinP sep f' d i)
 | 0,_=>LeO.refl _
 | d + 1,i=>by
  rw [joinP,joinP];exact LeO.bind (h i) (fun _=>LeO.bind (joinP_mono h d (i + 1)) (fun _=>LeO.refl _))
theorem valN_mono {L : Int → List UInt8} {beh : ByteArray} {g : Int → Bool} {V V' : Int → Bool → ByteArray → ByteArray → List ByteArray → List S25 → Int → Option (List UInt8)} (h : ∀ k0 k1 k2 k3 l4 l5 d,LeO (V k0 k1 k2 k3 l4 l5 d) (V' k0 k1 k2 k3 l4 l5 d)) (k0 : Int) (k1 : Bool) (k2 k3 : ByteArray) (l4 : List ByteArray) (l5 : List S25) (d : Int) : LeO (valN L beh g V k0 k1 k2 k3 l4 l5 d) (valN L beh g V' k0 k1 k2 k3 l4 l5 d):=by
 unfold valN
 refine LeO.ite (LeO.refl _) (LeO.ite (LeO.refl _) (LeO.ite (LeO.refl _) (LeO.ite (LeO.refl _) (LeO.ite (LeO.ite ?_ (LeO.ite ?_ (LeO.refl _))) (LeO.refl _)))))
 ·exact LeO.bind (joinP_mono (fun i=>h _ _ _ _ _ _ _) _ _) (fun _=>LeO.refl _)
 exact LeO.bind (joinP_mono (fun i=>LeO.ite (LeO.bind (h _ _ _ _ _ _ _) (fun _=>LeO.refl _)) (LeO.refl _)) _ _) (fun _=>LeO.refl _)
theorem valP_mono (L : Int → List UInt8) (beh : ByteArray) (g : Int → Bool) : ∀ (k : Nat) (k0 : Int) (k1 : Bool) (k2 k3 : ByteArray) (l4 : List ByteArray) (l5 : List S25) (d : Int),LeO (valP L beh g k k0 k1 k2 k3 l4 l5 d) (valP L beh g (k + 1) k0 k1 k2 k3 l4 l5 d)
 | 0=>fun _ _ _ _ _ _ _=>LeO.none _
 | k + 1=>fun k0 k1 k2 k3 l4 l5 d=>valN_mono (valP_mono L beh g k) k0 k1 k2 k3 l4 l5 d
theorem valP_S (W : World) (b : Nat) (ln : Bool) (ind beh : ByteArray) (L : Int → List UInt8) (g : Int → Bool) (hL : LineS W.heap.size b ln ind beh L g) : ∀ k,ValS W b ln ind beh (valP L beh g k)
 | 0=>by
  intro k0 k1 k2 k3 A4 c4 l4 A5 c5 l5 d bs w o _ _ _ _ h;cases h
 | k + 1=>val_step W b ln ind beh L g hL _ (valP_S W b ln ind beh L g hL k)
def write_Compact.f (k : Nat) (a0_0 : Int) (a0_1 : Bool) (a0_2 : ByteArray) (a0_3 : ByteArray) (l0_4 : List ByteArray) (l0_5 : List S25) : Option (ByteArray × Int) :=
 (tree_Formed.f k a0_0 a0_1 a0_2 a0_3 l0_4 l0_5).bind fun t=>if t = true then (valP (fun _=>[]) ⟨#[58]⟩ (fun _=>true) k a0_0 a0_1 a0_2 a0_3 l0_4 l0_5 0).bind fun o=>if o = [] then none else if o.length ≤ 140737488355328 then some (⟨o.toArray⟩,0) else none else some (⟨#[]⟩,1)
theorem write_Compact.mono : ∀ a0 a1 a2 a3 a4 a5 k,LeO (write_Compact.f k a0 a1 a2 a3 a4 a5) (write_Compact.f (k + 1) a0 a1 a2 a3 a4 a5):=by
 intro a0 a1 a2 a3 a4 a5 k
 unfold write_Compact.f
 exact LeO.bind (tree_Formed.mono _ _ _ _ _ _ _) (fun _=>LeO.ite (LeO.bind (valP_mono _ _ _ _ _ _ _ _ _ _ _) (fun _=>LeO.refl _)) (LeO.refl _))
set_option maxHeartbeats 2000000 in
set_option maxRecDepth 100000 in
theorem write_Compact.calls (k : Nat) (a0_0 : Int) (a0_1 : Bool) (a0_2 : ByteArray) (a0_3 : ByteArray) (A0_4 : Option Addr) (c0_4 : Nat) (l0_4 : List ByteArray) (A0_5 : Option Addr) (c0_5 : Nat) (l0_5 : List S25) (r1 : ByteArray) (r2 : Int) (w : World) (hr0_4 : Kd.C Kd.string w A0_4 l0_4.length l0_4) (hc0_4 : l0_4.length ≤ c0_4) (hr0_5 : Kd.C k25 w A0_5 l0_5.length l0_5) (hc0_5 : l0_5.length ≤ c0_5) (h : write_Compact.f k a0_0 a0_1 a0_2 a0_3 l0_4 l0_5 = some (r1,r2)) :
  Calls Tryz.prog 17 #[.agg #[.int .i64 a0_0,.bool a0_1,.string a0_2,.string a0_3,.slice A0_4 l0_4.length c0_4,.slice A0_5 l0_5.length c0_5]] w fun e w'=>e = .returned (.tuple #[.string r1,.int .i64 r2]) ∧ Below w.heap.size w w':=by
 unfold write_Compact.f at h
 obtain ⟨t,ht,h⟩:=Option.bind_eq_some_iff.mp h;have HT:=Aside0.mk ht;have HR4:=Aside0.mk hr0_4;have HR5:=Aside0.mk hr0_5;have H:=Aside0.mk h;clear ht hr0_4 hr0_5 h;have hb0:=below_alloc (Below.refl _ w) (Obj.cells #[.int .i64 a0_0,.bool a0_1,.string a0_2,.string a0_3,.slice A0_4 l0_4.length c0_4,.slice A0_5 l0_5.length c0_5] 25)
 obtain ⟨W1,hW1⟩ : ∃ W1,W1 = w.alloc (Obj.cells #[.int .i64 a0_0,.bool a0_1,.string a0_2,.string a0_3,.slice A0_4 l0_4.length c0_4,.slice A0_5 l0_5.length c0_5] 25):=⟨_,rfl⟩
 rw [← hW1] at hb0
 have BK:=blk_new w (Obj.cells #[.int .i64 a0_0,.bool a0_1,.string a0_2,.string a0_3,.slice A0_4 l0_4.length c0_4,.slice A0_5 l0_5.length c0_5] 25)
 rw [← hW1] at BK
 have HB0:=Aside0.mk hb0;have HBK:=Aside0.mk BK;have HR4:=Aside0.mk (Kd.C_below HR4.out hb0);have HR5:=Aside0.mk (Kd.C_below HR5.out hb0);have HW1:=Aside0.mk hW1;clear hb0 BK hW1;go_enter Tryz.func17,Tryz.ntmps17
 go_wp2_with fail
 rw [← HW1.out];refine (tree_Formed.calls k _ _ _ _ _ _ _ _ _ _ t _ HR4.out hc0_4 HR5.out hc0_5 HT.out).mono ?_;rintro e w1 ⟨rfl,b1⟩;have HB1:=Aside0.mk (HB0.out.trans (b1.mono HB0.out.size));have HR4:=Aside0.mk (Kd.C_below HR4.out b1);have HR5:=Aside0.mk (Kd.C_below HR5.out b1);have HBK:=Aside0.mk (blk_below HBK.out b1);have H:=H.out;clear b1 HT;cases t
 ·rw [if_neg (by decide)] at H
  have H:=Option.some.inj H
  rw [Prod.mk.injEq] at H
  obtain ⟨rfl,rfl⟩:=H;go_wp2
  go_ret2
  exact ⟨rfl,HB1.out⟩
 rw [if_pos rfl] at H
 obtain ⟨o,ho,H⟩:=Option.bind_eq_some_iff.mp H
 by_cases hn : o = []
 ·rw [if_pos hn] at H
  cases H
 rw [if_neg hn] at H
 by_cases hl : o.length ≤ 140737488355328
 ·rw [if_pos hl] at H
  have H:=Option.some.inj H
  rw [Prod.mk.injEq] at H
  obtain ⟨rfl,rfl⟩:=H;have HO:=Aside0.mk ho;clear ho
  go_upto_region 4 with fail
  obtain ⟨w2,hw2⟩ : ∃ w2,w2 = w1.alloc (Obj.cells #[.pointer none,.slice none 0 0,.bool false,.string ⟨#[]⟩,.string ⟨#[58]⟩] 47):=⟨_,rfl⟩
  rw [← hw2];have hpg : IsPg w1.heap.size w1.heap.size [] false ⟨#[]⟩ ⟨#[58]⟩ w2:=.inl ⟨Nat.le_refl _,.slice none 0 0,by rw [hw2];exact blk_new w1 _,World.ownsRow_nil _ _ _ _,by simp [Value.ownBlock]⟩
  have hb2 : Below w1.heap.size w1 w2:=by rw [hw2];exact below_alloc (Below.refl _ w1) _
  have hbk2:=blk_below HBK.out hb2;have c0 : w2.cell? ⟨w.heap.size,0,none⟩ = some (.int .i64 a0_0):=(blk_cell hbk2 0).trans rfl;have c1 : w2.cell? ⟨w.heap.size,1,none⟩ = some (.bool a0_1):=(blk_cell hbk2 1).trans rfl;have c2 : w2.cell? ⟨w.heap.size,2,none⟩ = some (.string a0_2):=(blk_cell hbk2 2).trans rfl;have c3 : w2.cell? ⟨w.heap.size,3,none⟩ = some (.string a0_3):=(blk_cell hbk2 3).trans rfl;have c4 : w2.cell? ⟨w.heap.size,4,none⟩ = some (.slice A0_4 l0_4.length c0_4):=(blk_cell hbk2 4).trans rfl;have c5 : w2.cell? ⟨w.heap.size,5,none⟩ = some (.slice A0_5 l0_5.length c0_5):=(blk_cell hbk2 5).trans rfl;have HPG:=Aside0.mk hpg;have HB2:=Aside0.mk hb2;have hu25:=Tryz.underlying25
  have hlo : ([] : List Value).length + o.length ≤ 140737488355328:=by simpa using hl
  clear hpg hb2 hbk2 hw2
  go_wp2_with fail
  refine (valP_S w1 w1.heap.size false ⟨#[]⟩ ⟨#[58]⟩ (fun _=>[]) (fun _=>true) (fun e bs w _ h _ _=>pg_line0 _ _ _ _ e bs w h) k _ _ _ _ _ _ _ _ _ _ 0 [] _ o HR4.out hc0_4 HR5.out hc0_5 HO.out HPG.out HB2.out hlo).mono ?_;rintro e w3 ⟨rfl,h3,b3,f3⟩;have HP3:=Aside0.mk h3;have HB3:=Aside0.mk b3;clear h3 b3 f3
  go_wp2_with (go_at_call 22;refine (pg_text w1.heap.size w1.heap.size o false _ _ _ HP3.out hn).mono ?_)
  rintro e w4 ⟨rfl,b4⟩;go_wp2
  go_ret2
  exact ⟨rfl,HB1.out.trans (((HB2.out.trans HB3.out).trans b4).mono HB1.out.size)⟩
 rw [if_neg hl] at H
 cases H
end Go.Proofs.YtlgamjgdkljfiacGreatDoor.PWritePretties
