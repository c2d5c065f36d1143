-- Written by shrink.py, a program of this session: what the law needs of the print and its words. Lean checks it.
import Derived.Test.YtlgamjgdkljfiacGreatDoorZPWritePrettiesx0
import Derived.Test.YtlgamjgdkljfiacGreatDoorZPWritePrettiesx15
import Derived.Test.YtlgamjgdkljfiacGreatDoorZPWritePrettiesx30
import Derived.Test.YtlgamjgdkljfiacGreatDoorZPWritePrettiesx32
import Derived.Lib.Builder
import Derived.Lib.AppendStr
import Derived.Lib.UnsafeStr
import Derived.Lib.Walk
import Derived.LoopTactic
import Derived.BigCall
import Derived.Laws.Externs
import Derived.RegionTactic
namespace Go.Proofs.YtlgamjgdkljfiacGreatDoor.PWritePretties
open Go.RowKit Go.Proofs.YtlgamjgdkljfiacGreatDoorW.PrintWords Go.Proofs.YtlgamjgdkljfiacGreatDoorW.PrintLast Go.Proofs.YtlgamjgdkljfiacGreatDoorW.PrintMore
attribute [local go_sem] max2_int min2_int max_two min_two max_three min_three max_four min_four
set_option linter.unusedVariables false
set_option linter.unusedSimpArgs false
def indS (n : Nat) : ByteArray:=⟨(List.replicate n 32).toArray⟩
def lineL (n : Nat) (e : Int) : List UInt8:=10 :: List.replicate (e.toNat * n) 32
def lineG (e : Int) : Bool:=decide (0 ≤ e ∧ e ≤ 1048576)
theorem pg_ind {B b : Nat} {bs : List Value} {ln : Bool} {ind beh : ByteArray} {w : World} (h : IsPg B b bs ln ind beh w) : w.cell? ⟨b,3,none⟩ = some (.string ind):=by
 rcases h with ⟨_,v,hb,_⟩|⟨_,v,hb,_⟩
 ·simp [World.cell?,hb]
 simp [World.cell?,hb]
theorem pg_lns {B b : Nat} {bs : List Value} {ln : Bool} {ind beh : ByteArray} {w : World} (h : IsPg B b bs ln ind beh w) : w.cell? ⟨b,2,none⟩ = some (.bool ln):=by
 rcases h with ⟨_,v,hb,_⟩|⟨_,v,hb,_⟩
 ·simp [World.cell?,hb]
 simp [World.cell?,hb]
theorem ind_size (n : Nat) : (indS n).size = n:=by
 show (List.replicate n 32).toArray.size = n
 rw [List.size_toArray,List.length_replicate]
theorem ind_rep (n c : Nat) : Lib.repeatL (indS n).data.toList c = List.replicate (c * n) 32:=by
 show Lib.repeatL (List.replicate n 32) c = _
 exact Lib.repeatL_replicate 32 n c
theorem line_str (n c : Nat) : (⟨#[10]⟩ : ByteArray) ++ ⟨(List.replicate (c * n) 32).toArray⟩ = ⟨(10 :: List.replicate (c * n) 32).toArray⟩:=by
 apply ByteArray.ext
 apply Array.ext'
 simp
set_option maxHeartbeats 4000000 in
set_option maxRecDepth 100000 in
theorem pg_line1 (B b n : Nat) (hn : n ≤ 8) (beh : ByteArray) (e : Int) (bs : List Value) (w : World) (hg : lineG e = true) (h : IsPg B b bs true (indS n) beh w) (hBw : B ≤ w.heap.size) (hlen : bs.length + (lineL n e).length ≤ 140737488355328) :
  Calls Tryz.prog 56 #[.pointer (some ⟨b,0,none⟩),.int .i64 e] w fun e' w'=>e' = .returned (.tuple #[]) ∧ IsPg B b (bs ++ Lib.byteCells (lineL n e)) true (indS n) beh w' ∧ Below B w w' ∧ FrT b w w':=by
 have hg' : 0 ≤ e ∧ e ≤ 1048576:=of_decide_eq_true hg;have hc : w.cell? ⟨b,1 + 1,none⟩ = some (.bool true):=pg_lns h;have hl:=pg_lt h;have hsz : e.toNat * n ≤ 1048576 * 8:=Nat.mul_le_mul (by omega) hn
 have HRP : Aside0 (strings_Repeat.f (indS n) e = some ⟨(Lib.repeatL (indS n).data.toList e.toNat).toArray⟩):=by
  refine ⟨?_⟩
  unfold strings_Repeat.f
  rw [if_pos (by omega),if_pos (by rw [ind_size,Nat.mul_comm];omega)]
 have z1 : ((⟨#[10]⟩ : ByteArray).size + (⟨(Lib.repeatL (indS n).data.toList e.toNat).toArray⟩ : ByteArray).size) ≤ 9223372036854775807:=by
  show 1 + (Lib.repeatL (indS n).data.toList e.toNat).toArray.size ≤ _
  rw [List.size_toArray,ind_rep,List.length_replicate];omega
 have z2 : (9223372036854775807 < 1 + (Lib.repeatL (indS n).data.toList e.toNat).length) = False:=eq_false (by rw [ind_rep,List.length_replicate];omega)
 have HLN : Aside0 (bs.length + ((⟨#[10]⟩ : ByteArray) ++ ⟨(Lib.repeatL (indS n).data.toList e.toNat).toArray⟩).size ≤ 140737488355328):=by
  refine ⟨?_⟩;rw [ind_rep,line_str]
  show _ + (lineL n e).toArray.size ≤ _
  rw [List.size_toArray];exact hlen
 have HPd:=Aside0.mk (pg_below h (Below.drew (Below.refl w.heap.size w)));have HBd : Aside0 (Below B w w.drew):=⟨Below.drew (Below.refl B w)⟩;have HFd : Aside0 (FrT b w w.drew):=⟨FrT.drew w⟩;have hld : w.heap.size = w.drew.heap.size:=rfl;clear h hg hg' hlen;go_enter Tryz.func56,Tryz.ntmps56
 go_upto_region 1 with fail
 refine start_ (n:=11) (S:=fun w'=>w'.cell? ⟨b,3,none⟩ = some (.string (indS n))) (ds:=[10]) #[false,false,false,false,false,false,false,false,false,false,false] (by kernel_rfl) rfl rfl (pg_ind HPd.out) (fun hHeld=>?_);refine pure_ (i:=0) (N:=some 8) (v:=?_) (a':=?_) #[true,false,false,false,false,false,false,false,false,false,false] rfl rfl (by kernel_rfl) (fun _ _ _ h=>h) (Or.inl ⟨by rfl,?_⟩) ?_ ?_;rotate_left
 ·intro w';go_simp;with_reducible rfl
 rotate_left
 ·simp only [Act.put,List.setIfInBounds_toArray,List.set_cons_zero,List.set_cons_succ,i64_w,i32_w];rfl
 refine pure_ (i:=1) (N:=some 9) (v:=?_) (a':=?_) #[true,true,false,false,false,false,false,false,false,false,false] rfl rfl (by kernel_rfl) (fun _ _ _ h=>h) (Or.inl ⟨by rfl,?_⟩) ?_ ?_;rotate_left
 ·intro w';go_simp;with_reducible rfl
 rotate_left
 ·simp only [Act.put,List.setIfInBounds_toArray,List.set_cons_zero,List.set_cons_succ,i64_w,i32_w];rfl
 refine pure_ (i:=2) (N:=some 10) (v:=?_) (a':=?_) #[true,true,true,false,false,false,false,false,false,false,false] rfl rfl (by kernel_rfl) (fun _ _ _ h=>h) (Or.inl ⟨by rfl,?_⟩) ?_ ?_;rotate_left
 ·intro w';go_simp;with_reducible rfl
 rotate_left
 ·simp only [Act.put,List.setIfInBounds_toArray,List.set_cons_zero,List.set_cons_succ,i64_w,i32_w];rfl
 refine pure_ (i:=3) (N:=some 11) (v:=?_) (a':=?_) #[true,true,true,true,false,false,false,false,false,false,false] rfl rfl (by kernel_rfl) (fun _ _ _ h=>h) (Or.inl ⟨by rfl,?_⟩) ?_ ?_;rotate_left
 ·intro w';go_simp;with_reducible rfl
 rotate_left
 ·simp only [Act.put,List.setIfInBounds_toArray,List.set_cons_zero,List.set_cons_succ,i64_w,i32_w];rfl
 refine pure_ (i:=4) (N:=some 12) (v:=?_) (a':=?_) #[true,true,true,true,true,false,false,false,false,false,false] rfl rfl (by kernel_rfl) (fun _ _ _ h=>h) (Or.inl ⟨by rfl,?_⟩) ?_ ?_;rotate_left
 ·intro w';go_simp;with_reducible rfl
 rotate_left
 ·simp only [Act.put,List.setIfInBounds_toArray,List.set_cons_zero,List.set_cons_succ,i64_w,i32_w];rfl
 refine pure_ (i:=5) (N:=some 13) (v:=?_) (a':=?_) #[true,true,true,true,true,true,false,false,false,false,false] rfl rfl (by kernel_rfl) (fun _ _ _ h=>h) (Or.inl ⟨by rfl,?_⟩) ?_ ?_;rotate_left
 ·intro w';go_simp;with_reducible rfl
 rotate_left
 ·simp only [Act.put,List.setIfInBounds_toArray,List.set_cons_zero,List.set_cons_succ,i64_w,i32_w];rfl
 refine pure_ (i:=7) (N:=some 15) (v:=?_) (a':=?_) #[true,true,true,true,true,true,false,true,false,false,false] rfl rfl (by kernel_rfl) (fun _ _ _ h=>h) (Or.inl ⟨by rfl,?_⟩) ?_ ?_;rotate_left
 ·intro w';go_simp;with_reducible rfl
 rotate_left
 ·simp only [Act.put,List.setIfInBounds_toArray,List.set_cons_zero,List.set_cons_succ,i64_w,i32_w];rfl
 refine take_ (i:=6) (N:=some 14) (v:=?_) (a':=?_) #[true,true,true,true,true,true,true,true,false,false,false] rfl rfl (by kernel_rfl) (fun _ _ _ h=>h) (Or.inl ⟨by rfl,?_⟩) hHeld ?_ ?_;rotate_left
 ·intro w' s0;go_simp;with_reducible rfl
 rotate_left
 ·simp only [Act.put,List.setIfInBounds_toArray,List.set_cons_zero,List.set_cons_succ,i64_w,i32_w];rfl
 refine one_ (i:=8) (N:=some 16) #[true,true,true,true,true,true,true,true,true,false,false] rfl rfl (by kernel_rfl) (by decide) (fun K hK=>?_);refine goes_ Tryz.func20 (by kernel_rfl) rfl #[.string (indS n),.int .i64 e] (by rfl) rfl rfl (by simp only [List.map_toArray,List.map_cons,List.map_nil];rfl) ?_
 with_reducible refine (strings_Repeat.calls _ _ _ _ HRP.out).mono ?_
 rintro e1 w1 ⟨rfl,hb1⟩;refine ⟨_,rfl,?_⟩;have HP1:=Aside0.mk (pg_below HPd.out hb1);have HB1:=Aside0.mk (HBd.out.trans (hb1.mono (by have:=HBd.out.size;omega)));have HF1:=Aside0.mk (HFd.out.trans (FrT.below (b:=b) hb1));clear hb1;refine hK.out _ _ (pg_ind HP1.out) (fun hHeld=>?_);clear hK K;refine norm_ (a':=?_) ?_ ?_;rotate_left
 ·show Act.put _ (some 16) _ = _
  simp only [Act.put,List.setIfInBounds_toArray,List.set_cons_zero,List.set_cons_succ,i64_w,i32_w];rfl
 refine pure_ (i:=9) (N:=some 17) (v:=?_) (a':=?_) #[true,true,true,true,true,true,true,true,true,true,false] rfl rfl (by kernel_rfl) (fun _ _ _ h=>h) (Or.inl ⟨by rfl,?_⟩) ?_ ?_;rotate_left
 ·intro w';go_simp;with_reducible rfl
 rotate_left
 ·simp only [Act.put,List.setIfInBounds_toArray,List.set_cons_zero,List.set_cons_succ,i64_w,i32_w];rfl
 refine last_ (i:=10) (N:=some 18) #[true,true,true,true,true,true,true,true,true,true,true] rfl rfl (by kernel_rfl) (by decide) (fun K hK=>?_);refine goes_ Tryz.func31 (by kernel_rfl) rfl #[.pointer (some ⟨b,0,none⟩),.string (⟨#[10]⟩ ++ ⟨(Lib.repeatL (indS n).data.toList e.toNat).toArray⟩)] (by rfl) rfl rfl (by simp only [List.map_toArray,List.map_cons,List.map_nil];rfl) ?_
 with_reducible refine (pg_string B b bs true (indS n) beh _ _ HP1.out HLN.out (by have:=HB1.out.size;omega)).mono ?_
 rintro e2 w2 ⟨rfl,h2,b2,f2⟩;refine ⟨_,rfl,?_⟩;have HP2:=Aside0.mk h2;have HB2:=Aside0.mk (HB1.out.trans b2);have HF2:=Aside0.mk (HF1.out.trans f2);clear h2 b2 f2;refine hK.out _ _ ?_;clear hK K;refine norm_ (a':=?_) ?_ ?_;rotate_left
 ·show Act.put _ (some 18) _ = _
  simp only [Act.put,List.setIfInBounds_toArray,List.set_cons_zero,List.set_cons_succ,i64_w,i32_w];rfl
 refine done_ (by kernel_rfl) ?_;go_wp2
 go_end0
 refine ⟨rfl,?_,HB2.out,HF2.out⟩;have:=HP2.out
 rw [ind_rep,line_str,cells_str] at this
 exact .inr this
theorem rep_one (c : Nat) : (⟨(Lib.repeatL (⟨#[32]⟩ : ByteArray).data.toList c).toArray⟩ : ByteArray) = indS c:=by
 have h:=ind_rep 1 c
 rw [Nat.mul_one] at h
 unfold indS
 rw [← h];rfl
def write_Pretty.f (k : Nat) (a0_0 : Int) (a0_1 : Bool) (a0_2 : ByteArray) (a0_3 : ByteArray) (l0_4 : List ByteArray) (l0_5 : List S25) (a1 : Int) : Option (ByteArray × Int) :=
 (tree_Formed.f k a0_0 a0_1 a0_2 a0_3 l0_4 l0_5).bind fun t=>if t = true then (if a1 < 0 then some (⟨#[]⟩,2) else if a1 > 8 then some (⟨#[]⟩,2) else (valP (lineL a1.toNat) ⟨#[58,32]⟩ lineG k a0_0 a0_1 a0_2 a0_3 l0_4 l0_5 0).bind fun o=>if o = [] then none else if o.length ≤ 140737488355328 then some (⟨o.toArray⟩,0) else none) else some (⟨#[]⟩,1)
set_option maxHeartbeats 2000000 in
set_option maxRecDepth 100000 in
theorem write_Pretty.calls (k : Nat) (a0_0 : Int) (a0_1 : Bool) (a0_2 : ByteArray) (a0_3 : ByteArray) (A0_4 : Option Addr) (c0_4 : Nat) (l0_4 : List ByteArray) (A0_5 : Option Addr) (c0_5 : Nat) (l0_5 : List S25) (a1 : Int) (r1 : ByteArray) (r2 : Int) (w : World) (hr0_4 : Kd.C Kd.string w A0_4 l0_4.length l0_4) (hc0_4 : l0_4.length ≤ c0_4) (hr0_5 : Kd.C k25 w A0_5 l0_5.length l0_5) (hc0_5 : l0_5.length ≤ c0_5) (h : write_Pretty.f k a0_0 a0_1 a0_2 a0_3 l0_4 l0_5 a1 = some (r1,r2)) :
  Calls Tryz.prog 12 #[.agg #[.int .i64 a0_0,.bool a0_1,.string a0_2,.string a0_3,.slice A0_4 l0_4.length c0_4,.slice A0_5 l0_5.length c0_5],.int .i64 a1] w fun e w'=>e = .returned (.tuple #[.string r1,.int .i64 r2]) ∧ Below w.heap.size w w':=by
 unfold write_Pretty.f at h
 obtain ⟨t,ht,h⟩:=Option.bind_eq_some_iff.mp h;have HT:=Aside0.mk ht;have HR4:=Aside0.mk hr0_4;have HR5:=Aside0.mk hr0_5;have H:=Aside0.mk h;clear ht hr0_4 hr0_5 h;have hb0:=below_alloc (Below.refl _ w) (Obj.cells #[.int .i64 a0_0,.bool a0_1,.string a0_2,.string a0_3,.slice A0_4 l0_4.length c0_4,.slice A0_5 l0_5.length c0_5] 25)
 obtain ⟨W1,hW1⟩ : ∃ W1,W1 = w.alloc (Obj.cells #[.int .i64 a0_0,.bool a0_1,.string a0_2,.string a0_3,.slice A0_4 l0_4.length c0_4,.slice A0_5 l0_5.length c0_5] 25):=⟨_,rfl⟩
 rw [← hW1] at hb0
 have BK:=blk_new w (Obj.cells #[.int .i64 a0_0,.bool a0_1,.string a0_2,.string a0_3,.slice A0_4 l0_4.length c0_4,.slice A0_5 l0_5.length c0_5] 25)
 rw [← hW1] at BK
 have HB0:=Aside0.mk hb0;have HBK:=Aside0.mk BK;have HR4:=Aside0.mk (Kd.C_below HR4.out hb0);have HR5:=Aside0.mk (Kd.C_below HR5.out hb0);have HW1:=Aside0.mk hW1;clear hb0 BK hW1;go_enter Tryz.func12,Tryz.ntmps12
 go_wp2_with fail
 rw [← HW1.out];refine (tree_Formed.calls k _ _ _ _ _ _ _ _ _ _ t _ HR4.out hc0_4 HR5.out hc0_5 HT.out).mono ?_;rintro e w1 ⟨rfl,b1⟩;have HB1:=Aside0.mk (HB0.out.trans (b1.mono HB0.out.size));have HR4:=Aside0.mk (Kd.C_below HR4.out b1);have HR5:=Aside0.mk (Kd.C_below HR5.out b1);have HBK:=Aside0.mk (blk_below HBK.out b1);have H:=H.out;clear b1 HT;cases t
 ·rw [if_neg (by decide)] at H
  have H:=Option.some.inj H
  rw [Prod.mk.injEq] at H
  obtain ⟨rfl,rfl⟩:=H;go_wp2
  go_ret2
  exact ⟨rfl,HB1.out⟩
 rw [if_pos rfl] at H
 by_cases hneg : a1 < 0
 ·rw [if_pos hneg] at H
  have H:=Option.some.inj H
  rw [Prod.mk.injEq] at H
  obtain ⟨rfl,rfl⟩:=H;have d1 : decide (a1 < 0) = true:=decide_eq_true hneg;clear hneg;go_wp2
  go_ret2
  exact ⟨rfl,HB1.out⟩
 rw [if_neg hneg] at H
 have d1 : decide (a1 < 0) = false:=decide_eq_false hneg
 by_cases hbig : a1 > 8
 ·rw [if_pos hbig] at H
  have H:=Option.some.inj H
  rw [Prod.mk.injEq] at H
  obtain ⟨rfl,rfl⟩:=H;have d2 : decide (8 < a1) = true:=decide_eq_true hbig;clear hneg hbig;go_wp2
  go_ret2
  exact ⟨rfl,HB1.out⟩
 rw [if_neg hbig] at H
 have d2 : decide (8 < a1) = false:=decide_eq_false (by omega);obtain ⟨o,ho,H⟩:=Option.bind_eq_some_iff.mp H
 by_cases hn : o = []
 ·rw [if_pos hn] at H
  cases H
 rw [if_neg hn] at H
 by_cases hl : o.length ≤ 140737488355328
 ·rw [if_pos hl] at H
  have H:=Option.some.inj H
  rw [Prod.mk.injEq] at H
  obtain ⟨rfl,rfl⟩:=H;have HO:=Aside0.mk ho
  have hrep : strings_Repeat.f ⟨#[32]⟩ a1 = some (indS a1.toNat):=by
   unfold strings_Repeat.f
   rw [if_pos (by omega),if_pos (by show 1 * a1.toNat ≤ _;omega),rep_one]
  have HREP:=Aside0.mk hrep;have HN : Aside0 (a1.toNat ≤ 8):=⟨by omega⟩;clear ho hrep hneg hbig
  go_wp2_with fail
  refine (strings_Repeat.calls _ _ _ _ HREP.out).mono ?_;rintro e wz ⟨rfl,bz⟩;have HB1:=Aside0.mk (HB1.out.trans (bz.mono HB1.out.size));have HR4:=Aside0.mk (Kd.C_below HR4.out bz);have HR5:=Aside0.mk (Kd.C_below HR5.out bz);have HBK:=Aside0.mk (blk_below HBK.out bz);clear bz
  go_upto_region 6 with fail
  obtain ⟨w2,hw2⟩ : ∃ w2,w2 = wz.alloc (Obj.cells #[.pointer none,.slice none 0 0,.bool true,.string (indS a1.toNat),.string ⟨#[58,32]⟩] 47):=⟨_,rfl⟩
  rw [← hw2];have hpg : IsPg wz.heap.size wz.heap.size [] true (indS a1.toNat) ⟨#[58,32]⟩ w2:=.inl ⟨Nat.le_refl _,.slice none 0 0,by rw [hw2];exact blk_new wz _,World.ownsRow_nil _ _ _ _,by simp [Value.ownBlock]⟩
  have hb2 : Below wz.heap.size wz w2:=by rw [hw2];exact below_alloc (Below.refl _ wz) _
  have hbk2:=blk_below HBK.out hb2;have c0 : w2.cell? ⟨w.heap.size,0,none⟩ = some (.int .i64 a0_0):=(blk_cell hbk2 0).trans rfl;have c1 : w2.cell? ⟨w.heap.size,1,none⟩ = some (.bool a0_1):=(blk_cell hbk2 1).trans rfl;have c2 : w2.cell? ⟨w.heap.size,2,none⟩ = some (.string a0_2):=(blk_cell hbk2 2).trans rfl;have c3 : w2.cell? ⟨w.heap.size,3,none⟩ = some (.string a0_3):=(blk_cell hbk2 3).trans rfl;have c4 : w2.cell? ⟨w.heap.size,4,none⟩ = some (.slice A0_4 l0_4.length c0_4):=(blk_cell hbk2 4).trans rfl;have c5 : w2.cell? ⟨w.heap.size,5,none⟩ = some (.slice A0_5 l0_5.length c0_5):=(blk_cell hbk2 5).trans rfl;have HPG:=Aside0.mk hpg;have HB2:=Aside0.mk hb2;have hu25:=Tryz.underlying25
  have hlo : ([] : List Value).length + o.length ≤ 140737488355328:=by simpa using hl
  clear hpg hb2 hbk2 hw2
  go_wp2_with fail
  refine (valP_S wz wz.heap.size true (indS a1.toNat) ⟨#[58,32]⟩ (lineL a1.toNat) lineG (fun e bs w hg h hB hlen=>pg_line1 _ _ _ HN.out _ e bs w hg h hB hlen) k _ _ _ _ _ _ _ _ _ _ 0 [] _ o HR4.out hc0_4 HR5.out hc0_5 HO.out HPG.out HB2.out hlo).mono ?_;rintro e w3 ⟨rfl,h3,b3,f3⟩;have HP3:=Aside0.mk h3;have HB3:=Aside0.mk b3;clear h3 b3 f3
  go_wp2_with (go_at_call 22;refine (pg_text wz.heap.size wz.heap.size o true _ _ _ HP3.out hn).mono ?_)
  rintro e w4 ⟨rfl,b4⟩;go_wp2
  go_ret2
  exact ⟨rfl,HB1.out.trans (((HB2.out.trans HB3.out).trans b4).mono HB1.out.size)⟩
 rw [if_neg hl] at H
 cases H
end Go.Proofs.YtlgamjgdkljfiacGreatDoor.PWritePretties
