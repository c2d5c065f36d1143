-- Written by shrink.py, a program of this session: what the law needs of the print and its words. Lean checks it.
import Derived.Test.YtfaegleohhemkaaDoorZPPointerLikesx0
namespace Go.Proofs.YtfaegleohhemkaaDoor.PPointerLikes
open Go.RowKit Go.Proofs.YtfaegleohhemkaaDoorW.PrintWords Go.Proofs.YtfaegleohhemkaaDoorW.PrintLast Go.Proofs.YtfaegleohhemkaaDoorW.PrintMore
attribute [local go_sem] max2_int min2_int max_two min_two max_three min_three max_four min_four
set_option linter.unusedVariables false
set_option linter.unusedSimpArgs false
def sm7 : S25:=⟨3,false,⟨#[55]⟩,⟨#[]⟩,[],[]⟩
def smT : S25:=⟨2,true,⟨#[]⟩,⟨#[]⟩,[],[]⟩
def smIn : S25:=⟨6,false,⟨#[]⟩,⟨#[]⟩,[⟨#[]⟩],[sm7]⟩
def smLi : S25:=⟨5,false,⟨#[]⟩,⟨#[]⟩,[],[smT,smIn]⟩
def quarrylaw20_small.f : Option (Int × Bool × ByteArray × ByteArray × List ByteArray × (List (S25))):=some (6,false,(⟨#[]⟩ : ByteArray),(⟨#[]⟩ : ByteArray),[(⟨#[97]⟩ : ByteArray)],[smLi])
theorem sm_block {α : Type} {d : Kd α} {W : World} {b : Nat} {cs : Array Value} {t : TypeId} {xs : List α} (hb : W.heap[b]? = some (.cells cs t (0,0))) (hm : xs.length ≤ 9223372036854775807)
  (hK : ∀ j p,xs[j]? = some p → ∃ c,c.length = d.sz ∧ d.K W p c ∧ ∀ i u,c[i]? = some u → cs[j * d.sz + i]? = some u) : d.C W (some ⟨b,0,none⟩) xs.length xs:=by
 refine ⟨rfl,hm,fun _=>⟨⟨b,0,none⟩,rfl,fun j p hp=>?_⟩⟩;obtain ⟨c,h1,h2,h3⟩:=hK j p hp;refine ⟨c,h1,h2,fun i u hu=>?_⟩;have h4:=h3 i u hu
 have e : (⟨b,0,none⟩ : Addr).add (j * d.sz + i) = ⟨b,j * d.sz + i,none⟩:=by
  unfold Addr.add
  by_cases h0 : j * d.sz + i = 0
  ·rw [if_pos h0,h0]
  rw [if_neg h0];simp
 rw [e,blk_cell hb];exact h4
theorem sm_nil {α : Type} {d : Kd α} {W : World} : d.C W none ([] : List α).length []:=⟨rfl,Nat.zero_le _,fun h=>absurd h (Nat.lt_irrefl 0)⟩
theorem sm_new (w : World) (o : Obj) (g : Nat) (hg : g = w.heap.size) : (w.alloc o).heap[g]? = some o:=by subst hg;exact blk_new w o
theorem sm_string {W : World} {b : Nat} {s : ByteArray} {t : TypeId} (h : W.heap[b]? = some (.cells #[.string s] t (0,0))) : Kd.C Kd.string W (some ⟨b,0,none⟩) 1 [s] :=
 sm_block (d:=Kd.string) (xs:=[s]) h (by simp) (fun j p hj=>by
  match j,hj with
  | 0,hj=>obtain rfl:=Option.some.inj hj;exact ⟨[.string s],rfl,rfl,fun i u hu=>by
    have hi : i < 1:=(List.getElem?_eq_some_iff.1 hu).1
    match i,hi,hu with
    | 0,_,hu=>exact hu⟩)
set_option maxHeartbeats 1000000 in
set_option maxRecDepth 100000 in
theorem quarrylaw20_small.calls (r1 : Int) (r2 : Bool) (r3 : ByteArray) (r4 : ByteArray) (r5 : List ByteArray) (r6 : List (S25)) (w : World) (h : quarrylaw20_small.f = some (r1,r2,r3,r4,r5,r6)) :
  Calls Tryd.prog 21 #[] w fun e w'=>∃ v4_ v5_ : Value,e = .returned (.agg #[.int .i64 r1,.bool r2,.string r3,.string r4,v4_,v5_]) ∧ Kd.V Kd.string 9 w' w.heap.size (fun k_=>(w.heap.size ≤ k_)) v4_ r5 ∧ Kd.V k25 25 w' w.heap.size (fun k_=>(w.heap.size ≤ k_)) v5_ r6 ∧ Below w.heap.size w w':=by
 unfold quarrylaw20_small.f at h
 simp only [Option.some.injEq,Prod.mk.injEq] at h
 obtain ⟨rfl,rfl,rfl,rfl,rfl,rfl⟩:=h;go_enter Tryd.func21,Tryd.ntmps21;go_wp2
 refine bodyPost_ret (v:=.agg #[.int .i64 6,.bool false,.string ⟨#[]⟩,.string ⟨#[]⟩,.slice (some ⟨w.heap.size + 1 + 1 + 1 + 1 + 1 + 1,0,none⟩) 1 1,.slice (some ⟨w.heap.size + 1 + 1 + 1 + 1 + 1 + 1 + 1,0,none⟩) 1 1]) (by simp [results,Tryd.results21,go_sem]) rfl ⟨_,_,rfl,?_,?_,?_⟩
 case refine_3=>exact ((((((((Below.refl w.heap.size w).alloc (Nat.le_refl _) _).alloc (by simp) _).alloc (by simp;omega) _).alloc (by simp;omega) _).alloc (by simp;omega) _).alloc (by simp;omega) _).alloc (by simp;omega) _).alloc (by simp;omega) _
 case refine_1 =>
  refine Kd.V_mk (xs:=[(⟨#[97]⟩ : ByteArray)]) (by decide) (fun W' hW=>?_);have h6 : W'.heap[w.heap.size + 1 + 1 + 1 + 1 + 1 + 1]? = some (.cells #[.string ⟨#[97]⟩] 9 (0,0)):=(hW _ (by omega) (by first|(simp;done)|(simp;omega))).trans (by repeat (first|exact sm_new _ _ _ (by simp)|refine blk_alloc ?_ _));exact sm_string h6
 case refine_2 =>
  refine Kd.V_mk (xs:=[smLi]) (by decide) (fun W' hW=>?_);have h1 : W'.heap[w.heap.size + 1]? = some (.cells #[.string ⟨#[]⟩] 9 (0,0)):=(hW _ (by omega) (by first|(simp;done)|(simp;omega))).trans (by repeat (first|exact sm_new _ _ _ (by simp)|refine blk_alloc ?_ _));have h2 : W'.heap[w.heap.size + 1 + 1]? = some (.cells #[.int .i64 3,.bool false,.string ⟨#[55]⟩,.string ⟨#[]⟩,.slice none 0 0,.slice none 0 0] 25 (0,0)):=(hW _ (by omega) (by first|(simp;done)|(simp;omega))).trans (by repeat (first|exact sm_new _ _ _ (by simp)|refine blk_alloc ?_ _));have h4 : W'.heap[w.heap.size + 1 + 1 + 1 + 1]? = some (.cells #[.int .i64 2,.bool true,.string ⟨#[]⟩,.string ⟨#[]⟩,.slice none 0 0,.slice none 0 0,.int .i64 6,.bool false,.string ⟨#[]⟩,.string ⟨#[]⟩,.slice (some ⟨w.heap.size + 1,0,none⟩) 1 1,.slice (some ⟨w.heap.size + 1 + 1,0,none⟩) 1 1] 25 (0,0)):=(hW _ (by omega) (by first|(simp;done)|(simp;omega))).trans (by repeat (first|exact sm_new _ _ _ (by simp)|refine blk_alloc ?_ _));have h7 : W'.heap[w.heap.size + 1 + 1 + 1 + 1 + 1 + 1 + 1]? = some (.cells #[.int .i64 5,.bool false,.string ⟨#[]⟩,.string ⟨#[]⟩,.slice none 0 0,.slice (some ⟨w.heap.size + 1 + 1 + 1 + 1,0,none⟩) 2 2] 25 (0,0)):=(hW _ (by omega) (by first|(simp;done)|(simp;omega))).trans (by repeat (first|exact sm_new _ _ _ (by simp)|refine blk_alloc ?_ _));have c1:=sm_string h1;have k7:=k25_mk W' sm7 (A4:=none) (c4:=0) (A5:=none) (c5:=0) (Nat.le_refl _) sm_nil (Nat.le_refl _) sm_nil
  have c2 : Kd.C k25 W' (some ⟨w.heap.size + 1 + 1,0,none⟩) 1 [sm7]:=sm_block (xs:=[sm7]) h2 (by decide) (fun j p hj=>by
   match j,hj with
   | 0,hj=>obtain rfl:=Option.some.inj hj;exact ⟨_,rfl,k7,fun i u hu=>by
     have hi : i < 6:=(List.getElem?_eq_some_iff.1 hu).1
     match i,hi,hu with
     | 0,_,hu | 1,_,hu | 2,_,hu | 3,_,hu | 4,_,hu | 5,_,hu=>exact hu⟩)
  have kT:=k25_mk W' smT (A4:=none) (c4:=0) (A5:=none) (c5:=0) (Nat.le_refl _) sm_nil (Nat.le_refl _) sm_nil;have kIn:=k25_mk W' smIn (c4:=1) (c5:=1) (Nat.le_refl _) c1 (Nat.le_refl _) c2
  have c4 : Kd.C k25 W' (some ⟨w.heap.size + 1 + 1 + 1 + 1,0,none⟩) 2 [smT,smIn]:=sm_block (xs:=[smT,smIn]) h4 (by decide) (fun j p hj=>by
   match j,hj with
   | 0,hj=>obtain rfl:=Option.some.inj hj;exact ⟨_,rfl,kT,fun i u hu=>by
     have hi : i < 6:=(List.getElem?_eq_some_iff.1 hu).1
     match i,hi,hu with
     | 0,_,hu | 1,_,hu | 2,_,hu | 3,_,hu | 4,_,hu | 5,_,hu=>exact hu⟩
   | 1,hj=>obtain rfl:=Option.some.inj hj;exact ⟨_,rfl,kIn,fun i u hu=>by
     have hi : i < 6:=(List.getElem?_eq_some_iff.1 hu).1
     match i,hi,hu with
     | 0,_,hu | 1,_,hu | 2,_,hu | 3,_,hu | 4,_,hu | 5,_,hu=>exact hu⟩)
  have kLi:=k25_mk W' smLi (A4:=none) (c4:=0) (c5:=2) (Nat.le_refl _) sm_nil (Nat.le_refl _) c4
  exact sm_block (xs:=[smLi]) h7 (by decide) (fun j p hj=>by
   match j,hj with
   | 0,hj=>obtain rfl:=Option.some.inj hj;exact ⟨_,rfl,kLi,fun i u hu=>by
     have hi : i < 6:=(List.getElem?_eq_some_iff.1 hu).1
     match i,hi,hu with
     | 0,_,hu | 1,_,hu | 2,_,hu | 3,_,hu | 4,_,hu | 5,_,hu=>exact hu⟩)
end Go.Proofs.YtfaegleohhemkaaDoor.PPointerLikes
