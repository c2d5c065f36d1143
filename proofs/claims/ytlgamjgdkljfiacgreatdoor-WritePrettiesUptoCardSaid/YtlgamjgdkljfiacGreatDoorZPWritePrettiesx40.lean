-- Written by shrink.py, a program of this session: what the law needs of the print and its words. Lean checks it.
import Derived.Test.YtlgamjgdkljfiacGreatDoorZPWritePrettiesx0
import Derived.Test.YtlgamjgdkljfiacGreatDoorZPWritePrettiesx39
import Derived.WalkMore
import Derived.Deep.QuietTactic
import Derived.BigQuiet
import Derived.Lib.ConvBytes
import Derived.Laws.Append
import Derived.Laws.AppendOwn
namespace Go.Proofs.YtlgamjgdkljfiacGreatDoor.PWritePretties
open Go.RowKit Go.Proofs.YtlgamjgdkljfiacGreatDoorW.PrintWords Go.Proofs.YtlgamjgdkljfiacGreatDoorW.PrintLast Go.Proofs.YtlgamjgdkljfiacGreatDoorW.PrintMore
attribute [local go_sem] max2_int min2_int max_two min_two max_three min_three max_four min_four
set_option linter.unusedVariables false
set_option linter.unusedSimpArgs false
def quarryref05_Walk.l0 : Nat → ByteArray → Nat → Nat → Option Int
 | 0,_,_,_=>none
 | k + 1,s,from_,n=>if s.size < from_ + n then some (s.size : Int) else (quarryref05_Begins.f k (bytesOf (s.extract from_ (from_ + n)))).bind fun t=>if t.1 = true then (if t.2.2 = true then (if from_ + n < s.size then quarryref05_Walk.l0 k s (from_ + n) 1 else some (-1)) else quarryref05_Walk.l0 k s from_ (n + 1)) else some ((from_ : Int) + n - 1)
def quarryref05_Bad.f (k : Nat) (a0 : ByteArray) : Option Int:=if a0.size ≤ 1099511627776 then (if 0 < a0.size then quarryref05_Walk.l0 k a0 0 1 else some (-1)) else none
def WkO (s : ByteArray) (from_ : Nat) (r : Int) : Prop:=(from_ < s.size → ∃ k,quarryref05_Walk.l0 k s from_ 1 = some r) ∧ (¬ from_ < s.size → r = -1)
def WkI (s : ByteArray) (from_ n : Nat) (whole : Bool) (r : Int) : Prop:=(whole = false ∧ ∃ k,quarryref05_Walk.l0 k s from_ n = some r) ∨ (whole = true ∧ 2 ≤ n ∧ from_ + (n - 1) ≤ s.size ∧ WkO s (from_ + (n - 1)) r)
theorem WkI.beyond {s : ByteArray} {f n : Nat} {r : Int} (h : WkI s f n false r) (hn : s.size < f + n) : r = (s.size : Int):=by
 rcases h with ⟨_,k,h⟩|⟨h,_⟩
 ·cases k with
  | zero=>simp [quarryref05_Walk.l0] at h
  | succ k=>rw [quarryref05_Walk.l0,if_pos hn] at h;exact (Option.some.inj h).symm
 cases h
theorem WkI.step {s : ByteArray} {f n : Nat} {r : Int} (h : WkI s f n false r) (hn : ¬ s.size < f + n) (hp : 1 ≤ n) : ∃ (k : Nat) (a : Bool) (b : Int) (c : Bool),quarryref05_Begins.f k (bytesOf (s.extract f (f + n))) = some (a,b,c) ∧ (a = true → c = true → WkI s f (n + 1) true r) ∧ (a = true → c = false → WkI s f (n + 1) false r) ∧ (a = false → r = (f : Int) + n - 1):=by
 rcases h with ⟨_,k,h⟩|⟨h,_⟩
 ·cases k with
  | zero=>simp [quarryref05_Walk.l0] at h
  | succ k =>
   rw [quarryref05_Walk.l0,if_neg hn] at h
   obtain ⟨⟨a,b,c⟩,hb,h⟩:=Option.bind_eq_some_iff.mp h;refine ⟨k,a,b,c,hb,fun ha hc=>?_,fun ha hc=>?_,fun ha=>?_⟩
   ·subst ha;subst hc
    simp only [if_true] at h
    refine .inr ⟨rfl,by omega,by omega,?_⟩;rw [Nat.add_sub_cancel];refine ⟨fun hl=>?_,fun hl=>?_⟩
    ·rw [if_pos hl] at h
     exact ⟨k,h⟩
    rw [if_neg hl] at h
    exact (Option.some.inj h).symm
   ·subst ha;subst hc
    simp only [if_true,if_neg (show ¬ (false = true) by decide)] at h
    exact .inl ⟨rfl,k,h⟩
   subst ha
   simp only [if_neg (show ¬ (false = true) by decide)] at h
   exact (Option.some.inj h).symm
 cases h
theorem WkI.done {s : ByteArray} {f n : Nat} {r : Int} (h : WkI s f n true r) : 2 ≤ n ∧ f + (n - 1) ≤ s.size ∧ WkO s (f + (n - 1)) r:=by
 rcases h with ⟨h,_⟩|⟨_,h⟩
 ·cases h
 exact h
structure WkM (w wr : World) (v5 v6 : Value) (m : Nat) : Prop where
 a : ∃ xs : List Int,xs.length = m ∧ Kd.R (Kd.int .i64) 3 wr w.heap.size (fun _=>True) v5 xs
 b : ∃ xs : List Int,xs.length = m ∧ Kd.R (Kd.int .i32) 21 wr w.heap.size (fun _=>True) v6 xs
 below : Below w.heap.size w wr
theorem WkM.below_ {w wr w1 : World} {v5 v6 : Value} {m : Nat} (h : WkM w wr v5 v6 m) (hb : Below wr.heap.size wr w1) : WkM w w1 v5 v6 m:=by
 obtain ⟨⟨xs,hx,ha⟩,⟨ys,hy,hc⟩,hw⟩:=h;exact ⟨⟨xs,hx,Kd.R_below ha hb⟩,⟨ys,hy,Kd.R_below hc hb⟩,below_step hw hb⟩
theorem bytesWorld_below (w : World) (e : TypeId) (s : ByteArray) : Below w.heap.size w (Lib.bytesWorld w e s):=by
 refine ⟨rfl,rfl,rfl,?_,fun j hj=>Lib.bytesWorld_at_old w e s j hj⟩;rw [Lib.bytesWorld_size]
 omega
theorem bytesWorld_reads (w : World) (e : TypeId) (s : ByteArray) (hs : s.size ≤ 9223372036854775807) : Kd.C (Kd.int .u8) (Lib.bytesWorld w e s) (some ⟨w.heap.size,0,none⟩) (bytesOf s).length (bytesOf s):=by
 refine Kd.C_of_reads (d:=0) ⟨rfl,by rw [bytesOf_length];exact hs,fun _=>⟨_,rfl,fun j hj=>?_⟩⟩
 rw [bytesOf_length] at hj
 have h:=Lib.bytesWorld_cell w e s j hj
 have e1 : (⟨w.heap.size,0,none⟩ : Addr).add j = ⟨w.heap.size,j,none⟩:=by simp only [Addr.add,Nat.zero_add];split <;> simp_all
 rw [e1,h]
 congr 2
 unfold bytesOf
 simp [List.getD,hj]
set_option maxHeartbeats 4000000 in
set_option maxRecDepth 100000 in
theorem wk_walk (s : ByteArray) (r : Int) (w : World) (hs : s.size ≤ 1099511627776) (h : WkO s 0 r) :
  Calls Tryz.prog 94 #[.string s] w fun e w'=>∃ v5 v6 : Value,e = .returned (.tuple #[v5,v6,.int .i64 r]) ∧ Below w.heap.size w w':=by
 have HO:=Aside0.mk h;clear h
 have hcv : ∀ (w : World) (s : ByteArray),(convert 9 43 (.string s)).run Tryz.prog w = .ok (.slice (some ⟨w.heap.size,0,none⟩) (bytesOf s).length (grownCap w s.size 0 5)) (Lib.bytesWorld w 5 s):=fun w s=>by rw [bytesOf_length];exact Lib.run_convert_string_bytes w 9 43 5 s Tryz.underlying9 Tryz.underlying43 Tryz.underlying5
 go_enter Tryz.func94,Tryz.ntmps94
 go_wp2_with fail
 go_loopw [5,6,7] (fun v5 v6 i wr=>∃ (f : Nat) (m : Nat),f ≤ s.size ∧ m ≤ f ∧ i = .int .i64 f ∧ WkM w wr v5 v6 m ∧ WkO s f r) (fun _ _ i _=>s.size - (intOf i).toNat)
 case atStart=>exact ⟨0,0,Nat.zero_le _,Nat.zero_le _,rfl,⟨⟨[],rfl,Kd.R_nil _ _ _ _ _⟩,⟨[],rfl,Kd.R_nil _ _ _ _ _⟩,Below.refl _ _⟩,HO.out⟩
 case round =>
  obtain ⟨f,m,hf,hm,rfl,hM,hO⟩:=hrel;have HM:=Aside0.mk hM;have HO:=Aside0.mk hO;clear hM hO
  by_cases hlt : f < s.size
  ·have hI0 : WkI s f 1 false r:=.inl ⟨rfl,HO.out.1 hlt⟩;have HI0:=Aside0.mk hI0;clear hI0
   obtain ⟨wo,rfl⟩ : ∃ wo : World,wo = wr:=⟨_,rfl⟩
   go_wp2_with fail
   go_loopw [5,6,8,9] (fun v5 v6 n wh wr=>∃ (j m : Nat) (whole : Bool),1 ≤ j ∧ f + j ≤ s.size + 1 ∧ m ≤ f + j - 1 ∧ n = .int .i64 j ∧ wh = .bool whole ∧ WkM w wr v5 v6 m ∧ WkI s f j whole r) (fun _ _ n _ _=>s.size + 2 - (f + (intOf n).toNat))
   case atStart=>exact ⟨1,m,false,Nat.le_refl _,by omega,by omega,rfl,rfl,HM.out,HI0.out⟩
   case round =>
    obtain ⟨j,m1,whole,hj,hjs,hm1,rfl,rfl,hM1,hI1⟩:=hrel;have HM1:=Aside0.mk hM1;have HI1:=Aside0.mk hI1;clear hM1 hI1
    cases whole with
    | true =>
     obtain ⟨hj2,hfs,hO2⟩:=HI1.out.done;have HO2:=Aside0.mk hO2;clear hO2;go_wp2
     go_roundw
     case rel=>exact ⟨f + (j - 1),m1,by omega,by omega,by go_num,HM1.out,HO2.out⟩
     case measure=>simp [intOf];omega
    | false =>
     by_cases hb : s.size < f + j
     ·have hr:=HI1.out.beyond hb;subst hr;go_wp2
      go_ret3
      exact ⟨_,_,rfl,HM1.out.below⟩
     obtain ⟨k,a,b,c,hbg,h1,h2,h3⟩:=HI1.out.step hb hj;have HBG:=Aside0.mk hbg;have H1:=Aside0.mk h1;have H2:=Aside0.mk h2;have H3:=Aside0.mk h3;clear hbg h1 h2 h3
     have hsl : ∀ w,(Instr.slice 9 (.string s) (some (.int .i64 (f : Int))) (some (.int .i64 ((f : Int) + (j : Int)))) none).run Tryz.prog w = .ok (.string (s.extract f (f + j))) w:=fun w=>by
      have h:=run_slice_string (P:=Tryz.prog) (w:=w) 9 s .i64 .i64 (f : Int) ((f : Int) + (j : Int)) Tryz.underlying9 (by omega) (by omega) (by omega)
      have e1 : ((f : Int) + (j : Int)).toNat = f + j:=by omega
      rw [e1,Int.toNat_natCast] at h
      exact h
     have hes : (s.extract f (f + j)).size ≤ 1099511627776:=by rw [ByteArray.size_extract];omega
     have HES:=Aside0.mk hes;clear hes
     go_wp2_with fail
     refine (quarryref05_Begins.calls k _ _ (bytesOf (s.extract f (f + j))) a b c _ (bytesWorld_reads wr 5 _ (Nat.le_trans HES.out (by omega))) (by rw [bytesOf_length,ByteArray.size_extract];exact grownCap_ge _ _ _ _) HBG.out).mono ?_;rintro e w1 ⟨rfl,hd1⟩;have HM2:=Aside0.mk ((HM1.out.below_ (bytesWorld_below wr 5 _)).below_ hd1.below);clear hd1 hsl
     cases a with
     | false =>
      have hr:=H3.out rfl;subst hr;go_wp2
      go_ret3
      exact ⟨_,_,rfl,HM2.out.below⟩
     | true =>
      cases c with
      | false =>
       have HI2:=Aside0.mk (H2.out rfl rfl);clear hcv;go_wp2
       go_roundw
       case rel=>exact ⟨j + 1,m1,false,by omega,by omega,by omega,by go_num,rfl,HM2.out,HI2.out⟩
       case measure=>simp [intOf];omega
      | true =>
       have HI2:=Aside0.mk (H1.out rfl rfl);obtain ⟨xs,hx,hra⟩:=HM2.out.a;obtain ⟨ys,hy,hrb⟩:=HM2.out.b;have HRA:=Aside0.mk hra;have HRB:=Aside0.mk hrb;clear hcv hra hrb
       go_wp2_with (first|(at_builtin;refine Kd.R_append (Kd.int .i64) (w0:=w) w.heap.size rfl (.tmp 50) (.tmp 52) 132 3 (.int .i64 0) 8 rfl Tryz.underlying132 info3 rfl (by decide) (by omega) _ xs (f : Int) [.int .i64 (f : Int)] (fun _=>True) (fun _=>False) rfl rfl ?aP (fun _ hk=>hk.elim) ?aF ?aO ?aB ?aS ?aL ?_;(case aP=>exact rfl);(case aB=>exact HM2.out.below);(case aF=>exact (fun k hk=>trivial));(case aO=>exact HRA.out);(case aS=>exact HM2.out.below.size);(case aL=>rw [hx];omega);intro v51 w3 ho hb3 hg3 hat;have HRB3:=Aside0.mk (Kd.R_over HRB.out HRA.out (fun q hq=>by rcases List.mem_cons.1 hq with rfl|h;exact (by decide);cases h) hg3);have HRA3:=Aside0.mk ho;have HB3:=Aside0.mk hb3;clear ho hb3 hg3 hat)|(at_builtin;refine Kd.R_append (Kd.int .i32) (w0:=w) w.heap.size rfl (.tmp 54) (.tmp 56) 133 21 (.int .i32 0) 4 rfl Tryz.underlying133 info21 rfl (by decide) (by omega) _ ys b [.int .i32 b] (fun _=>True) (fun _=>False) rfl rfl ?aP (fun _ hk=>hk.elim) ?aF ?aO ?aB ?aS ?aL ?_;(case aP=>exact rfl);(case aB=>exact HB3.out);(case aF=>exact (fun k hk=>trivial));(case aO=>exact HRB3.out);(case aS=>exact HB3.out.size);(case aL=>rw [hy];omega);intro v61 w4 ho hb4 hg4 hat;have HRA4:=Aside0.mk (Kd.R_over HRA3.out HRB3.out (fun q hq=>by rcases List.mem_cons.1 hq with rfl|h;exact (by decide);cases h) hg4);have HRB4:=Aside0.mk ho;have HB4:=Aside0.mk hb4;clear ho hb4 hg4 hat))
       go_roundw
       case rel=>exact ⟨j + 1,m1 + 1,true,by omega,by omega,by omega,by go_num,rfl,⟨⟨_,by rw [List.length_append,hx];rfl,HRA4.out⟩,⟨_,by rw [List.length_append,hy];rfl,HRB4.out⟩,HB4.out⟩,HI2.out⟩
       case measure=>simp [intOf];omega
  have hr:=HO.out.2 hlt;subst hr;go_wp2
  go_ret3
  exact ⟨_,_,rfl,HM.out.below⟩
theorem quarryref05_Bad.calls (k : Nat) (a0 : ByteArray) (r1 : Int) (w : World) (h : quarryref05_Bad.f k a0 = some r1) :
  Calls Tryz.prog 73 #[.string a0] w fun e w'=>e = .returned (.int .i64 r1) ∧ Below w.heap.size w w':=by
 unfold quarryref05_Bad.f at h
 by_cases hs : a0.size ≤ 1099511627776
 ·rw [if_pos hs] at h
  have HO : Aside0 (WkO a0 0 r1):=by
   refine ⟨fun h0=>?_,fun h0=>?_⟩
   ·rw [if_pos h0] at h
    exact ⟨k,h⟩
   rw [if_neg h0] at h
   exact (Option.some.inj h).symm
  clear h;go_enter Tryz.func73,Tryz.ntmps73
  go_wp2_with fail
  refine (wk_walk a0 r1 w hs HO.out).mono ?_;rintro e w1 ⟨v5,v6,rfl,hb⟩;have HB:=Aside0.mk hb;clear hb;go_wp2
  go_ret;exact ⟨rfl,HB.out⟩
 rw [if_neg hs] at h
 exact absurd h (by simp)
end Go.Proofs.YtlgamjgdkljfiacGreatDoor.PWritePretties
