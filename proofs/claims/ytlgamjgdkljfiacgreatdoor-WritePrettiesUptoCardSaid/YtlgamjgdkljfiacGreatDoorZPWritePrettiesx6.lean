-- Written by shrink.py, a program of this session: what the law needs of the print and its words. Lean checks it.
import Derived.Test.YtlgamjgdkljfiacGreatDoorZPWritePrettiesx0
import Derived.Test.YtlgamjgdkljfiacGreatDoorZPWritePrettiesx4
import Derived.ScopeJumps
import Derived.WalkMore
import Derived.Lib.Strings
import Derived.Lib.Bytealg
import Derived.Laws.Append
import Derived.Laws.AppendOwn
import Derived.Lib.OthersKept
import Derived.Deep.QuietTactic
import Derived.BigQuiet
namespace Go.Proofs.YtlgamjgdkljfiacGreatDoor.PWritePretties
open Go.RowKit Go.Proofs.YtlgamjgdkljfiacGreatDoorW.PrintWords Go.Proofs.YtlgamjgdkljfiacGreatDoorW.PrintLast Go.Proofs.YtlgamjgdkljfiacGreatDoorW.PrintMore
attribute [local go_sem] max2_int min2_int max_two min_two max_three min_three max_four min_four
set_option linter.unusedVariables false
set_option linter.unusedSimpArgs false
def rdD (c : UInt8) : Bool:=decide (48 ≤ c.toNat ∧ c.toNat ≤ 57)
def rdE (e : Int) (x : UInt8) : Int:=if e < 1125899906842624 then 10 * e + ((x.toNat : Int) - 48) else e
abbrev RdOut:=Bool × List UInt8 × Nat × Int × List UInt8
def rdTens : List UInt8 → Int → UInt8 → Int × List UInt8
 | [],e,x=>(rdE e x,[])
 | c :: r,e,x=>if rdD c = true then rdTens r (rdE e x) c else (rdE e x,c :: r)
def rdPow (l all : List UInt8) (down : Nat) (turned : Bool) : RdOut :=
 match l with
 | []=>(false,all,down,0,[])
 | d :: r=>if rdD d = true then (true,all,down,if turned = true then - (rdTens r 0 d).1 else (rdTens r 0 d).1,(rdTens r 0 d).2) else (false,all,down,0,d :: r)
def rdExp (l all : List UInt8) (down : Nat) : RdOut :=
 match l with
 | []=>(true,all,down,0,[])
 | c :: r=>if c = 101 ∨ c = 69 then
   match r with
   | []=>rdPow [] all down false
   | s :: q=>if s = 43 then rdPow q all down false else if s = 45 then rdPow q all down true else rdPow (s :: q) all down false
  else (true,all,down,0,c :: r)
def rdBelow : List UInt8 → List UInt8 → Nat → UInt8 → RdOut
 | [],all,down,x=>rdExp [] (all ++ [x]) (down + 1)
 | c :: r,all,down,x=>if rdD c = true then rdBelow r (all ++ [x]) (down + 1) c else rdExp (c :: r) (all ++ [x]) (down + 1)
def rdPoint (l all : List UInt8) : RdOut :=
 match l with
 | []=>rdExp [] all 0
 | c :: r=>if c = 46 then
   match r with
   | []=>(false,all,0,0,[])
   | d :: q=>if rdD d = true then rdBelow q all 0 d else (false,all,0,0,d :: q)
  else rdExp (c :: r) all 0
def rdWhole : List UInt8 → List UInt8 → RdOut
 | [],all=>rdPoint [] all
 | c :: r,all=>if rdD c = true then rdWhole r (all ++ [c]) else rdPoint (c :: r) all
def rdFirst (l : List UInt8) : RdOut :=
 match l with
 | []=>(false,[],0,0,[])
 | d :: r=>if rdD d = true then (if d = 48 then rdPoint r [d] else rdWhole r [d]) else (false,[],0,0,d :: r)
def rdAll (l : List UInt8) : Bool × RdOut :=
 match l with
 | []=>(false,rdFirst [])
 | c :: r=>if c = 45 then (true,rdFirst r) else (false,rdFirst (c :: r))
def rdLead (l : List UInt8) : List UInt8:=l.dropWhile (· == 48)
def rdBody (l : List UInt8) : List UInt8:=((rdLead l).reverse.dropWhile (· == 48)).reverse
def decOut (s : ByteArray) (neg : Bool) (o : RdOut) : Bool × ByteArray × Int × Int × Int :=
 let fin : Int:=(s.size : Int) - (o.2.2.2.2.length : Int)
 if o.1 = false then (false,⟨#[]⟩,0,fin,110)
 else
  let e:=o.2.2.2.1 - (o.2.2.1 : Int) + ((rdLead o.2.1).length : Int) - ((rdBody o.2.1).length : Int)
  if rdBody o.2.1 = [] then (neg,⟨#[]⟩,0,fin,0)
  else if e > 1073741824 ∨ e < -1073741824 then (false,⟨#[]⟩,0,fin,111)
  else (neg,⟨(rdBody o.2.1).toArray⟩,e,fin,0)
def decV (s : ByteArray) (at_ : Int) : Bool × ByteArray × Int × Int × Int :=
 if at_ < 0 ∨ at_ > (s.size : Int) then (false,⟨#[]⟩,0,0,2)
 else decOut s (rdAll (s.data.toList.drop at_.toNat)).1 (rdAll (s.data.toList.drop at_.toNat)).2
def decimal_Read.f (a0 : ByteArray) (a1 : Int) : Option (Bool × ByteArray × Int × Int × Int):=if a0.size ≤ 1099511627776 then some (decV a0 a1) else none
def Exit.jumps (J : Nat → Act → World → Prop) (Q : Exit → Act → World → Prop) : Exit → Act → World → Prop
 | .goto l,a,w=>J l a w
 | e,a,w=>Q e a w
theorem wp_scope_many {P : Program} {a : Act} {w : World} {Q : Exit → Act → World → Prop} {c : Code} (J : Nat → Act → World → Prop) (μ : Nat → Act → World → Nat)
  (first : c.wp P (Exit.jumps J Q) a w)
  (pass : ∀ l a w,J l a w → ∃ rest,findLabel c l = some rest ∧ rest.wp P (Exit.jumps (fun l' a' w'=>J l' a' w' ∧ μ l' a' w' < μ l a w) Q) a w) : (Code.scope c).wp P Q a w:=by
 intro b k cs
 have key : ∀ n l a w,μ l a w = n → J l a w → ∃ rest,findLabel c l = some rest ∧ ∃ e a' w',Q e a' w' ∧ Arrives P (lone (b.at a (.code rest :: .inScope c :: k)) cs w) b k cs e a' w':=by
  intro n
  induction n using Nat.strongRecOn with
  | _ n ih =>
   intro l a w hn hJ;obtain ⟨rest,hf,hp⟩:=pass l a w hJ;obtain ⟨e,a₁,w₁,hq,harr⟩:=hp b (.inScope c :: k) cs;refine ⟨rest,hf,?_⟩
   cases e with
   | normal=>exact ⟨.normal,a₁,w₁,hq,Steps.trans harr (.one step_inScope)⟩
   | exit id=>exact ⟨.exit id,a₁,w₁,hq,fun k' hk=>harr k' (by simp [exitTo,hk])⟩
   | goto l' =>
    obtain ⟨hJ',hlt⟩:=hq;obtain ⟨rest',hf',e₂,a₂,w₂,hq₂,harr₂⟩:=ih _ (by omega) l' a₁ w₁ rfl hJ'
    have hg : gotoIn l' (.inScope c :: k) = some (.code rest' :: .inScope c :: k):=by simp [gotoIn,hf']
    exact ⟨e₂,a₂,w₂,hq₂,.of_steps (harr _ hg) harr₂⟩
   | ret=>exact ⟨_,a₁,w₁,hq,harr⟩
   | panic ch=>exact ⟨_,a₁,w₁,hq,harr⟩
   | outgrown=>exact ⟨_,a₁,w₁,hq,harr⟩
 obtain ⟨e,a₁,w₁,hq,harr⟩:=first b (.inScope c :: k) cs
 cases e with
 | normal=>exact ⟨.normal,a₁,w₁,hq,.head step_scope (Steps.trans harr (.one step_inScope))⟩
 | exit id=>exact ⟨.exit id,a₁,w₁,hq,fun k' hk=>.head step_scope (harr k' (by simp [exitTo,hk]))⟩
 | goto l' =>
  obtain ⟨rest',hf',e₂,a₂,w₂,hq₂,harr₂⟩:=key _ l' a₁ w₁ rfl hq
  have hg : gotoIn l' (.inScope c :: k) = some (.code rest' :: .inScope c :: k):=by simp [gotoIn,hf']
  exact ⟨e₂,a₂,w₂,hq₂,.of_steps (.head step_scope (harr _ hg)) harr₂⟩
 | ret=>exact ⟨_,a₁,w₁,hq,.of_steps (.one step_scope) harr⟩
 | panic ch=>exact ⟨_,a₁,w₁,hq,.of_steps (.one step_scope) harr⟩
 | outgrown=>exact ⟨_,a₁,w₁,hq,.of_steps (.one step_scope) harr⟩
def RdAt (w : World) (g : Nat) (s : ByteArray) (at_ : Int) (neg : Bool) (v : Value) (down exp : Int) : Prop:=w.heap[g]? = some (.cells #[.string s,.int .i64 at_,.bool neg,v,.int .i64 down,.int .i64 exp] 115 (0,0))
theorem RdAt.cells {w : World} {g : Nat} {s : ByteArray} {at_ : Int} {neg : Bool} {v : Value} {down exp : Int} (h : RdAt w g s at_ neg v down exp) :
  w.cell? ⟨g,0,none⟩ = some (.string s) ∧ w.cell? ⟨g,1,none⟩ = some (.int .i64 at_) ∧ w.cell? ⟨g,2,none⟩ = some (.bool neg) ∧ w.cell? ⟨g,3,none⟩ = some v ∧ w.cell? ⟨g,4,none⟩ = some (.int .i64 down) ∧ w.cell? ⟨g,5,none⟩ = some (.int .i64 exp) ∧ ∀ j,w.frozen? ⟨g,j,none⟩ = false :=
 ⟨(blk_cell h 0).trans rfl,(blk_cell h 1).trans rfl,(blk_cell h 2).trans rfl,(blk_cell h 3).trans rfl,(blk_cell h 4).trans rfl,(blk_cell h 5).trans rfl,fun j=>Lib.frozen_of_heap h j⟩
theorem RdAt.set1 {w : World} {g : Nat} {s : ByteArray} {at_ : Int} {neg : Bool} {v : Value} {down exp : Int} (h : RdAt w g s at_ neg v down exp) (x : Int) : RdAt (w.setCell ⟨g,1,none⟩ (.int .i64 x)) g s x neg v down exp:=by simpa [RdAt] using blk_set h 1 (.int .i64 x)
theorem RdAt.set2 {w : World} {g : Nat} {s : ByteArray} {at_ : Int} {neg : Bool} {v : Value} {down exp : Int} (h : RdAt w g s at_ neg v down exp) (x : Bool) : RdAt (w.setCell ⟨g,2,none⟩ (.bool x)) g s at_ x v down exp:=by simpa [RdAt] using blk_set h 2 (.bool x)
theorem RdAt.set3 {w : World} {g : Nat} {s : ByteArray} {at_ : Int} {neg : Bool} {v : Value} {down exp : Int} (h : RdAt w g s at_ neg v down exp) (x : Value) : RdAt (w.setCell ⟨g,3,none⟩ x) g s at_ neg x down exp:=by simpa [RdAt] using blk_set h 3 x
theorem RdAt.set4 {w : World} {g : Nat} {s : ByteArray} {at_ : Int} {neg : Bool} {v : Value} {down exp : Int} (h : RdAt w g s at_ neg v down exp) (x : Int) : RdAt (w.setCell ⟨g,4,none⟩ (.int .i64 x)) g s at_ neg v x exp:=by simpa [RdAt] using blk_set h 4 (.int .i64 x)
theorem RdAt.set5 {w : World} {g : Nat} {s : ByteArray} {at_ : Int} {neg : Bool} {v : Value} {down exp : Int} (h : RdAt w g s at_ neg v down exp) (x : Int) : RdAt (w.setCell ⟨g,5,none⟩ (.int .i64 x)) g s at_ neg v down x:=by simpa [RdAt] using blk_set h 5 (.int .i64 x)
theorem rd_get (s : ByteArray) (i : Nat) (h : i < s.size) : s.data.toList.drop i = s[i] :: s.data.toList.drop (i + 1):=by
 have h' : i < s.data.toList.length:=by rw [data_length];exact h
 rw [List.drop_eq_getElem_cons h'];rfl
theorem rdD_wrap (c : UInt8) : decide (((c.toNat : Int) - 48) % 256 ≤ 9) = rdD c:=by
 have h : c.toNat < 256:=c.toNat_lt
 unfold rdD
 rw [decide_eq_decide]
 omega
structure RdTo (w w' : World) (g : Nat) (s : ByteArray) (at_ : Int) (neg : Bool) (v : Value) (down exp : Int) : Prop where
 blk : RdAt w' g s at_ neg v down exp
 keep : KeepBut w w' g none
 below : Below g w w'
 size : w'.heap.size = w.heap.size
theorem RdTo.self {w : World} {g : Nat} {s : ByteArray} {at_ : Int} {neg : Bool} {v : Value} {down exp : Int} (h : RdAt w g s at_ neg v down exp) : RdTo w w g s at_ neg v down exp:=⟨h,KeepBut.refl _ _ _,Below.refl _ _,rfl⟩
theorem RdTo.drew {w w' : World} {g : Nat} {s : ByteArray} {at_ : Int} {neg : Bool} {v : Value} {down exp : Int} (h : RdTo w w' g s at_ neg v down exp) : RdTo w w'.drew g s at_ neg v down exp:=⟨h.blk,keep_drew h.keep,below_drew h.below,h.size⟩
theorem RdTo.drewN {w w' : World} {g : Nat} {s : ByteArray} {at_ : Int} {neg : Bool} {v : Value} {down exp : Int} (h : RdTo w w' g s at_ neg v down exp) (m : Nat) : RdTo w (w'.drewN m) g s at_ neg v down exp:=⟨h.blk,keep_drewN h.keep m,⟨h.below.os,h.below.tape,h.below.output,h.below.size,h.below.block⟩,h.size⟩
theorem rd_size (w : World) (a : Addr) (x : Value) : (w.setCell a x).heap.size = w.heap.size:=by simp [World.setCell]
theorem RdTo.set1 {w w' : World} {g : Nat} {s : ByteArray} {at_ : Int} {neg : Bool} {v : Value} {down exp : Int} (h : RdTo w w' g s at_ neg v down exp) (x : Int) : RdTo w (w'.setCell ⟨g,1,none⟩ (.int .i64 x)) g s x neg v down exp:=⟨h.blk.set1 x,h.keep.set_ 1 _,h.below.setCell (Nat.le_refl _) _,(rd_size _ _ _).trans h.size⟩
theorem RdTo.set2 {w w' : World} {g : Nat} {s : ByteArray} {at_ : Int} {neg : Bool} {v : Value} {down exp : Int} (h : RdTo w w' g s at_ neg v down exp) (x : Bool) : RdTo w (w'.setCell ⟨g,2,none⟩ (.bool x)) g s at_ x v down exp:=⟨h.blk.set2 x,h.keep.set_ 2 _,h.below.setCell (Nat.le_refl _) _,(rd_size _ _ _).trans h.size⟩
theorem RdTo.set4 {w w' : World} {g : Nat} {s : ByteArray} {at_ : Int} {neg : Bool} {v : Value} {down exp : Int} (h : RdTo w w' g s at_ neg v down exp) (x : Int) : RdTo w (w'.setCell ⟨g,4,none⟩ (.int .i64 x)) g s at_ neg v x exp:=⟨h.blk.set4 x,h.keep.set_ 4 _,h.below.setCell (Nat.le_refl _) _,(rd_size _ _ _).trans h.size⟩
theorem RdTo.set5 {w w' : World} {g : Nat} {s : ByteArray} {at_ : Int} {neg : Bool} {v : Value} {down exp : Int} (h : RdTo w w' g s at_ neg v down exp) (x : Int) : RdTo w (w'.setCell ⟨g,5,none⟩ (.int .i64 x)) g s at_ neg v down x:=⟨h.blk.set5 x,h.keep.set_ 5 _,h.below.setCell (Nat.le_refl _) _,(rd_size _ _ _).trans h.size⟩
def RdGot (s : ByteArray) (n : Nat) (p : UInt8 → Bool) (x : Int) (ok : Bool) (n' : Nat) : Prop:=(ok = true ∧ n' = n + 1 ∧ ∃ h : n < s.size,p s[n] = true ∧ x = (s[n].toNat : Int)) ∨ (ok = false ∧ n' = n ∧ x = 0 ∧ ∀ h : n < s.size,p s[n] = false)
set_option maxHeartbeats 2000000 in
set_option maxRecDepth 100000 in
theorem rd_digit (g : Nat) (s : ByteArray) (n : Nat) (neg : Bool) (v : Value) (down exp : Int) (w : World) (hs : s.size ≤ 1099511627776) (h : RdAt w g s n neg v down exp) :
  Calls Tryz.prog 96 #[.pointer (some ⟨g,0,none⟩)] w fun e w'=>∃ (x : Int) (ok : Bool) (n' : Nat),e = .returned (.tuple #[.int .u8 x,.bool ok]) ∧ RdTo w w' g s n' neg v down exp ∧ RdGot s n rdD x ok n':=by
 obtain ⟨c0,c1,c2,c3,c4,c5,fz⟩:=h.cells;have f1:=fz 1;clear fz
 by_cases hn : n < s.size
 ·have hd:=rdD_wrap s[n]
  cases hdd : rdD s[n] with
  | true =>
   rw [hdd] at hd
   go_enter Tryz.func96,Tryz.ntmps96;go_wp2
   go_region
   go_wp2
   go_region
   go_wp2
   go_ret2
   refine ⟨_,true,n + 1,rfl,?_,.inl ⟨rfl,rfl,hn,hdd,rfl⟩⟩;exact (((RdTo.self h).drew).set1 _).drew
  | false =>
   rw [hdd] at hd
   go_enter Tryz.func96,Tryz.ntmps96;go_wp2
   go_region
   go_wp2
   go_ret2
   exact ⟨_,false,n,rfl,(RdTo.self h).drew,.inr ⟨rfl,rfl,rfl,fun _=>hdd⟩⟩
 go_enter Tryz.func96,Tryz.ntmps96;go_wp2
 go_region
 go_wp2
 go_ret2
 exact ⟨_,false,n,rfl,(RdTo.self h).drew,.inr ⟨rfl,rfl,rfl,fun h=>absurd h hn⟩⟩
set_option maxHeartbeats 2000000 in
set_option maxRecDepth 100000 in
theorem rd_take (g : Nat) (s some_ : ByteArray) (n : Nat) (neg : Bool) (v : Value) (down exp : Int) (w : World) (hs : s.size ≤ 1099511627776) (h : RdAt w g s n neg v down exp) :
  Calls Tryz.prog 95 #[.pointer (some ⟨g,0,none⟩),.string some_] w fun e w'=>∃ (x : Int) (ok : Bool) (n' : Nat),e = .returned (.tuple #[.int .u8 x,.bool ok]) ∧ RdTo w w' g s n' neg v down exp ∧ RdGot s n (fun c=>decide (0 ≤ Lib.indexByte some_.data.toList c)) x ok n':=by
 obtain ⟨c0,c1,c2,c3,c4,c5,fz⟩:=h.cells;have f1:=fz 1;clear fz
 by_cases hn : n < s.size
 ·have hd : decide (0 ≤ Lib.indexByte some_.data.toList (s[n].toNat : Int).toNat.toUInt8) = decide (0 ≤ Lib.indexByte some_.data.toList s[n]):=by
   have e : (s[n].toNat : Int).toNat.toUInt8 = s[n]:=by rw [Int.toNat_natCast];exact UInt8.ofNat_toNat
   rw [e]
  cases hdd : decide (0 ≤ Lib.indexByte some_.data.toList s[n]) with
  | true =>
   rw [hdd] at hd
   go_enter Tryz.func95,Tryz.ntmps95
   go_wp2_with fail
   go_quiet ((go_at_call 71;exact Calls.quiet_of_same (ix_call _ _ _)))
   go_wp2
   go_region
   go_wp2
   go_ret2
   refine ⟨_,true,n + 1,rfl,?_,.inl ⟨rfl,rfl,hn,hdd,rfl⟩⟩;exact (((RdTo.self h).drewN _).set1 _).drew
  | false =>
   rw [hdd] at hd
   go_enter Tryz.func95,Tryz.ntmps95
   go_wp2_with fail
   go_quiet ((go_at_call 71;exact Calls.quiet_of_same (ix_call _ _ _)))
   go_wp2
   go_ret2
   exact ⟨_,false,n,rfl,(RdTo.self h).drewN _,.inr ⟨rfl,rfl,rfl,fun _=>hdd⟩⟩
 go_enter Tryz.func95,Tryz.ntmps95;go_wp2
 go_region
 go_wp2
 go_ret2
 exact ⟨_,false,n,rfl,(RdTo.self h).drew,.inr ⟨rfl,rfl,rfl,fun h=>absurd h hn⟩⟩
theorem wp_scope_fall {P : Program} {a : Act} {w : World} {Q : Exit → Act → World → Prop} {c : Code} (J : Nat → Act → World → Prop) (μ : Nat → Act → World → Nat)
  (first : (∀ l a w rest,findLabel c l = some (Code.skip.seq rest) → J l a w → rest.wp P (Exit.jumps J Q) a w) → c.wp P (Exit.jumps J Q) a w)
  (pass : ∀ l a w,J l a w → (∀ l' a' w' rest',findLabel c l' = some (Code.skip.seq rest') → J l' a' w' → μ l' a' w' < μ l a w → rest'.wp P (Exit.jumps (fun l'' a'' w''=>J l'' a'' w'' ∧ μ l'' a'' w'' < μ l a w) Q) a' w') →
   ∃ rest,findLabel c l = some (Code.skip.seq rest) ∧ rest.wp P (Exit.jumps (fun l' a' w'=>J l' a' w' ∧ μ l' a' w' < μ l a w) Q) a w) : (Code.scope c).wp P Q a w:=by
 have key : ∀ n l a w,μ l a w = n → J l a w → ∃ rest,findLabel c l = some (Code.skip.seq rest) ∧ rest.wp P (Exit.jumps (fun l' a' w'=>J l' a' w' ∧ μ l' a' w' < μ l a w) Q) a w:=by
  intro n
  induction n using Nat.strongRecOn with
  | _ n ih =>
   intro l a w hn hJ;refine pass l a w hJ (fun l' a' w' rest' hf hJ' hlt=>?_);obtain ⟨r,hr,hw⟩:=ih _ (by omega) l' a' w' rfl hJ'
   rw [hf] at hr
   cases hr;refine wp_mono hw (fun e a2 w2 hq=>?_)
   cases e with
   | goto l2=>exact ⟨hq.1,Nat.lt_trans hq.2 hlt⟩
   | normal=>exact hq
   | exit id=>exact hq
   | ret=>exact hq
   | panic ch=>exact hq
   | outgrown=>exact hq
 refine wp_scope_many J μ (first fun l a w rest hf hJ=>?_) (fun l a w hJ=>?_)
 ·obtain ⟨r,hr,hw⟩:=key _ l a w rfl hJ
  rw [hf] at hr
  cases hr;refine wp_mono hw (fun e a2 w2 hq=>?_)
  cases e with
  | goto l2=>exact hq.1
  | normal=>exact hq
  | exit id=>exact hq
  | ret=>exact hq
  | panic ch=>exact hq
  | outgrown=>exact hq
 obtain ⟨r,hr,hw⟩:=key _ l a w rfl hJ;exact ⟨_,hr,wp_seq (wp_skip hw)⟩
def rd_ints (l : List UInt8) : List Int:=l.map fun c=>(c.toNat : Int)
theorem rd_ints_snoc (l : List UInt8) (c : UInt8) : rd_ints (l ++ [c]) = rd_ints l ++ [(c.toNat : Int)]:=by simp [rd_ints]
theorem rd_ints_len (l : List UInt8) : (rd_ints l).length = l.length:=by simp [rd_ints]
def rdRel (l : Nat) (r all : List UInt8) (down : Nat) (exp : Int) (x : UInt8) (t : Bool) (out : RdOut) : Prop :=
 match l with
 | 0=>down = 0 ∧ exp = 0 ∧ rdPoint r all = out
 | 1=>down = 0 ∧ exp = 0 ∧ rdWhole r all = out
 | 2=>exp = 0 ∧ rdExp r all down = out
 | 3=>exp = 0 ∧ rdBelow r all down x = out
 | 4=>rdD x = true ∧ 0 ≤ exp ∧ exp ≤ 18014398509481984 ∧ ((true,all,down,(if t = true then - (rdTens r exp x).1 else (rdTens r exp x).1),(rdTens r exp x).2) : RdOut) = out
 | _=>False
structure RdB (g : Nat) (s : ByteArray) (w0 wr : World) (n : Nat) (neg : Bool) (v : Value) (all : List UInt8) (down exp : Int) : Prop where
 blk : RdAt wr g s n neg v down exp
 row : Kd.R (Kd.int .u8) 5 wr g (fun k=>k ≠ g) v (rd_ints all)
 lt : g < wr.heap.size
 below : Below g w0 wr
theorem RdB.to {g : Nat} {s : ByteArray} {w0 W W' : World} {n n' : Nat} {neg neg' : Bool} {v : Value} {all : List UInt8} {down exp down' exp' : Int} (h : RdB g s w0 W n neg v all down exp) (t : RdTo W W' g s n' neg' v down' exp') : RdB g s w0 W' n' neg' v all down' exp':=by
 refine ⟨t.blk,?_,by rw [t.size];exact h.lt,h.below.trans t.below⟩;refine Kd.R_mono (Kd.R_move (Kd.R_bound h.row) (fun j hj=>?_)) (fun _ hj=>hj.1);exact t.keep.2 j hj.2.2.1 hj.1 (by simp)
theorem RdB.grown {g : Nat} {s : ByteArray} {w0 W W1 : World} {n : Nat} {neg : Bool} {v v1 : Value} {all : List UInt8} {c : UInt8} {down exp : Int} (h : RdB g s w0 W n neg v all down exp)
  (ho : Kd.R (Kd.int .u8) 5 W1 g (fun k=>k ≠ g) v1 (rd_ints all ++ [(c.toNat : Int)])) (hb : Below g w0 W1) (hg : W.grownBy W1 v.ownBlock) : RdB g s w0 (W1.setCell ⟨g,3,none⟩ v1) n neg v1 (all ++ [c]) down exp ∧ RdAt W1 g s n neg v down exp:=by
 have hne : v.ownBlock ≠ some g:=fun e=>h.row.1 g e rfl
 have hb1 : RdAt W1 g s n neg v down exp:=(hg.block g h.lt (fun e=>hne e.symm)).trans h.blk;refine ⟨⟨hb1.set3 v1,?_,by rw [rd_size];exact Nat.lt_of_lt_of_le h.lt hg.size,hb.setCell (Nat.le_refl _) _⟩,hb1⟩;rw [rd_ints_snoc];refine Kd.R_mono (Kd.R_move (Kd.R_bound ho) (fun j hj=>?_)) (fun _ hj=>hj.1);exact Below.heap_setCell _ _ _ _ hj.1
structure RdS (g : Nat) (s : ByteArray) (w0 wr : World) (n : Nat) (neg : Bool) (all : List UInt8) (down : Nat) (exp : Int) (m : Nat) : Prop where
 le : n ≤ s.size
 room : all.length + m ≤ n ∧ down + m ≤ n
 st : ∃ v,RdB g s w0 wr n neg v all down exp
def RdJ (g : Nat) (s : ByteArray) (w0 : World) (neg : Bool) (out : RdOut) (l : Nat) (a : Act) (wr : World) : Prop :=
 a.defers = [] ∧ a.tmps.size = 139 ∧ ∃ (n : Nat) (x : UInt8) (t : Bool) (all : List UInt8) (down : Nat) (exp : Int),a.tmps[0]? = some (.pointer (some ⟨g,0,none⟩)) ∧ a.tmps[3]? = some (.int .u8 (x.toNat : Int)) ∧ a.tmps[5]? = some (.bool t) ∧
  RdS g s w0 wr n neg all down exp (if l = 3 then 1 else 0) ∧ rdRel l (s.data.toList.drop n) all down exp x t out
theorem act_list (a : Array Value) (n : Nat) (h : a.size = n) : a = ((List.range n).map fun k=>a.getD k undef).toArray:=by
 apply Array.ext
 ·simp [h]
 intro i h1 h2
 simp [Array.getD,h1]
theorem act_139 (a : Act) (hd : a.defers = []) (hs : a.tmps.size = 139) : ∃ u : Nat → Value,(∀ k v,a.tmps[k]? = some v → u k = v) ∧ a = { tmps:=#[u 0,u 1,u 2,u 3,u 4,u 5,u 6,u 7,u 8,u 9,u 10,u 11,u 12,u 13,u 14,u 15,u 16,u 17,u 18,u 19,u 20,u 21,u 22,u 23,u 24,u 25,u 26,u 27,u 28,u 29,u 30,u 31,u 32,u 33,u 34,u 35,u 36,u 37,u 38,u 39,u 40,u 41,u 42,u 43,u 44,u 45,u 46,u 47,u 48,u 49,u 50,u 51,u 52,u 53,u 54,u 55,u 56,u 57,u 58,u 59,u 60,u 61,u 62,u 63,u 64,u 65,u 66,u 67,u 68,u 69,u 70,u 71,u 72,u 73,u 74,u 75,u 76,u 77,u 78,u 79,u 80,u 81,u 82,u 83,u 84,u 85,u 86,u 87,u 88,u 89,u 90,u 91,u 92,u 93,u 94,u 95,u 96,u 97,u 98,u 99,u 100,u 101,u 102,u 103,u 104,u 105,u 106,u 107,u 108,u 109,u 110,u 111,u 112,u 113,u 114,u 115,u 116,u 117,u 118,u 119,u 120,u 121,u 122,u 123,u 124,u 125,u 126,u 127,u 128,u 129,u 130,u 131,u 132,u 133,u 134,u 135,u 136,u 137,u 138],defers:=[] }:=by
 refine ⟨fun k=>a.tmps.getD k undef,?_,?_⟩
 ·intro k v h
  obtain ⟨h1,h2⟩:=Array.getElem?_eq_some_iff.1 h
  simp [Array.getD,h1,h2]
 have h1:=act_list a.tmps 139 hs;obtain ⟨t,d⟩:=a;subst hd
 congr 1
def rdPos (g : Nat) (w : World) : Nat:=match w.cell? ⟨g,1,none⟩ with|some (.int _ n)=>n.toNat|_=>0
def rdRank (l : Nat) : Nat:=if l = 1 then 4 else if l = 0 then 3 else if l = 3 then 2 else if l = 2 then 1 else 0
theorem rdPos_of {w : World} {g : Nat} {s : ByteArray} {n : Nat} {neg : Bool} {v : Value} {down exp : Int} (h : RdAt w g s n neg v down exp) : rdPos g w = n:=by
 unfold rdPos
 rw [h.cells.2.1]
 simp
theorem rd_ix1 (b c : UInt8) : decide (0 ≤ Lib.indexByte [b] c) = decide (c = b):=by
 unfold Lib.indexByte
 by_cases h : b = c
 ·subst h;simp
 rw [if_neg (by simpa using h)]
 have : ¬ c = b:=fun e=>h e.symm
 simp [this,Lib.indexByte]
theorem rd_ix2 (a b c : UInt8) : decide (0 ≤ Lib.indexByte [a,b] c) = decide (c = a ∨ c = b):=by
 have h2 : Lib.indexByte [a,b] c = if a = c then 0 else if b = c then 1 else -1:=by
  have h2 : Lib.indexByte [a,b] c = if a == c then 0 else if Lib.indexByte [b] c == -1 then -1 else Lib.indexByte [b] c + 1:=rfl
  have h3 : Lib.indexByte [b] c = if b == c then 0 else if Lib.indexByte [] c == -1 then -1 else Lib.indexByte [] c + 1:=rfl
  have h4 : Lib.indexByte [] c = -1:=rfl;rw [h2,h3,h4];simp only [beq_iff_eq]
  by_cases h : b = c
  ·rw [if_pos h,if_pos h];rfl
  rw [if_neg h,if_neg h];rfl
 rw [h2,decide_eq_decide]
 by_cases h : a = c
 ·rw [if_pos h];simp [h]
 rw [if_neg h]
 by_cases h5 : b = c
 ·rw [if_pos h5];simp [h5]
 rw [if_neg h5]
 constructor
 ·intro e;omega
 rintro (e|e)
 ·exact absurd e.symm h
 exact absurd e.symm h5
theorem rd_none (s : ByteArray) (n : Nat) (h : ¬ n < s.size) : s.data.toList.drop n = []:=List.drop_of_length_le (by rw [data_length];omega)
section
variable {s : ByteArray} {n : Nat}
theorem rdFirst_yes (h : n < s.size) (hd : rdD s[n] = true) : rdFirst (s.data.toList.drop n) = if s[n] = 48 then rdPoint (s.data.toList.drop (n + 1)) [s[n]] else rdWhole (s.data.toList.drop (n + 1)) [s[n]]:=by
 rw [rd_get s n h,rdFirst,if_pos hd]
theorem rdFirst_no (hd : ∀ h : n < s.size,rdD s[n] = false) : rdFirst (s.data.toList.drop n) = (false,[],0,0,s.data.toList.drop n):=by
 by_cases h : n < s.size
 ·rw [rd_get s n h,rdFirst,if_neg (by rw [hd h];decide)]
 rw [rd_none s n h];rfl
theorem rdWhole_yes (all : List UInt8) (h : n < s.size) (hd : rdD s[n] = true) : rdWhole (s.data.toList.drop n) all = rdWhole (s.data.toList.drop (n + 1)) (all ++ [s[n]]):=by
 rw [rd_get s n h,rdWhole,if_pos hd]
theorem rdWhole_no (all : List UInt8) (hd : ∀ h : n < s.size,rdD s[n] = false) : rdWhole (s.data.toList.drop n) all = rdPoint (s.data.toList.drop n) all:=by
 by_cases h : n < s.size
 ·rw [rd_get s n h,rdWhole,if_neg (by rw [hd h];decide)]
 rw [rd_none s n h];rfl
theorem rdBelow_yes (all : List UInt8) (down : Nat) (x : UInt8) (h : n < s.size) (hd : rdD s[n] = true) : rdBelow (s.data.toList.drop n) all down x = rdBelow (s.data.toList.drop (n + 1)) (all ++ [x]) (down + 1) s[n]:=by
 rw [rd_get s n h,rdBelow,if_pos hd]
theorem rdBelow_no (all : List UInt8) (down : Nat) (x : UInt8) (hd : ∀ h : n < s.size,rdD s[n] = false) : rdBelow (s.data.toList.drop n) all down x = rdExp (s.data.toList.drop n) (all ++ [x]) (down + 1):=by
 by_cases h : n < s.size
 ·rw [rd_get s n h,rdBelow,if_neg (by rw [hd h];decide)]
 rw [rd_none s n h];rfl
theorem rdTens_yes (e : Int) (x : UInt8) (h : n < s.size) (hd : rdD s[n] = true) : rdTens (s.data.toList.drop n) e x = rdTens (s.data.toList.drop (n + 1)) (rdE e x) s[n]:=by
 rw [rd_get s n h,rdTens,if_pos hd]
theorem rdTens_no (e : Int) (x : UInt8) (hd : ∀ h : n < s.size,rdD s[n] = false) : rdTens (s.data.toList.drop n) e x = (rdE e x,s.data.toList.drop n):=by
 by_cases h : n < s.size
 ·rw [rd_get s n h,rdTens,if_neg (by rw [hd h];decide)]
 rw [rd_none s n h];rfl
end
theorem rdPoint_cons (c : UInt8) (r all : List UInt8) : rdPoint (c :: r) all = if c = 46 then (match r with|[]=>(false,all,0,0,[])|d :: q=>if rdD d = true then rdBelow q all 0 d else (false,all,0,0,d :: q)) else rdExp (c :: r) all 0:=by unfold rdPoint;rfl
theorem rdExp_cons (c : UInt8) (r all : List UInt8) (down : Nat) : rdExp (c :: r) all down = if c = 101 ∨ c = 69 then (match r with|[]=>rdPow [] all down false|s :: q=>if s = 43 then rdPow q all down false else if s = 45 then rdPow q all down true else rdPow (s :: q) all down false) else (true,all,down,0,c :: r):=by unfold rdExp;rfl
section
variable {s : ByteArray} {n : Nat}
theorem rdPoint_no (all : List UInt8) (hd : ∀ h : n < s.size,decide (0 ≤ Lib.indexByte [46] s[n]) = false) : rdPoint (s.data.toList.drop n) all = rdExp (s.data.toList.drop n) all 0:=by
 by_cases h : n < s.size
 ·rw [rd_get s n h,rdPoint_cons,if_neg (of_decide_eq_false ((rd_ix1 46 s[n]).symm.trans (hd h)))]
 rw [rd_none s n h];rfl
theorem rdPoint_dig (all : List UInt8) (h : n < s.size) (hd : decide (0 ≤ Lib.indexByte [46] s[n]) = true) (h2 : n + 1 < s.size) (hd2 : rdD s[n + 1] = true) : rdPoint (s.data.toList.drop n) all = rdBelow (s.data.toList.drop (n + 1 + 1)) all 0 s[n + 1]:=by
 rw [rd_get s n h,rdPoint_cons,if_pos (of_decide_eq_true ((rd_ix1 46 s[n]).symm.trans hd)),rd_get s (n + 1) h2]
 show (if rdD s[n + 1] = true then _ else _) = _
 rw [if_pos hd2]
theorem rdPoint_bad (all : List UInt8) (h : n < s.size) (hd : decide (0 ≤ Lib.indexByte [46] s[n]) = true) (hd2 : ∀ h2 : n + 1 < s.size,rdD s[n + 1] = false) : rdPoint (s.data.toList.drop n) all = (false,all,0,0,s.data.toList.drop (n + 1)):=by
 rw [rd_get s n h,rdPoint_cons,if_pos (of_decide_eq_true ((rd_ix1 46 s[n]).symm.trans hd))]
 by_cases h2 : n + 1 < s.size
 ·rw [rd_get s (n + 1) h2]
  show (if rdD s[n + 1] = true then _ else _) = _
  rw [if_neg (by rw [hd2 h2];decide)]
 rw [rd_none s (n + 1) h2]
theorem rdExp_no (all : List UInt8) (down : Nat) (hd : ∀ h : n < s.size,decide (0 ≤ Lib.indexByte [101,69] s[n]) = false) : rdExp (s.data.toList.drop n) all down = (true,all,down,0,s.data.toList.drop n):=by
 by_cases h : n < s.size
 ·rw [rd_get s n h,rdExp_cons,if_neg (of_decide_eq_false ((rd_ix2 101 69 s[n]).symm.trans (hd h)))]
 rw [rd_none s n h];rfl
theorem rdExp_bare (all : List UInt8) (down : Nat) (h : n < s.size) (hd : decide (0 ≤ Lib.indexByte [101,69] s[n]) = true) (hd2 : ∀ h2 : n + 1 < s.size,decide (0 ≤ Lib.indexByte [43,45] s[n + 1]) = false) : rdExp (s.data.toList.drop n) all down = rdPow (s.data.toList.drop (n + 1)) all down false:=by
 rw [rd_get s n h,rdExp_cons,if_pos (of_decide_eq_true ((rd_ix2 101 69 s[n]).symm.trans hd))]
 by_cases h2 : n + 1 < s.size
 ·have h3:=of_decide_eq_false ((rd_ix2 43 45 s[n + 1]).symm.trans (hd2 h2));rw [rd_get s (n + 1) h2]
  show (if s[n + 1] = 43 then _ else if s[n + 1] = 45 then _ else _) = _
  rw [if_neg (fun e=>h3 (.inl e)),if_neg (fun e=>h3 (.inr e))]
 rw [rd_none s (n + 1) h2]
theorem rdExp_minus (all : List UInt8) (down : Nat) (h : n < s.size) (hd : decide (0 ≤ Lib.indexByte [101,69] s[n]) = true) (h2 : n + 1 < s.size) (hd2 : s[n + 1] = 45) : rdExp (s.data.toList.drop n) all down = rdPow (s.data.toList.drop (n + 1 + 1)) all down true:=by
 rw [rd_get s n h,rdExp_cons,if_pos (of_decide_eq_true ((rd_ix2 101 69 s[n]).symm.trans hd)),rd_get s (n + 1) h2]
 show (if s[n + 1] = 43 then _ else if s[n + 1] = 45 then _ else _) = _
 rw [if_neg (by rw [hd2];decide),if_pos hd2]
theorem rdExp_plus (all : List UInt8) (down : Nat) (h : n < s.size) (hd : decide (0 ≤ Lib.indexByte [101,69] s[n]) = true) (h2 : n + 1 < s.size) (hd2 : decide (0 ≤ Lib.indexByte [43,45] s[n + 1]) = true) (hn : ¬ s[n + 1] = 45) : rdExp (s.data.toList.drop n) all down = rdPow (s.data.toList.drop (n + 1 + 1)) all down false:=by
 have h3:=of_decide_eq_true ((rd_ix2 43 45 s[n + 1]).symm.trans hd2);rw [rd_get s n h,rdExp_cons,if_pos (of_decide_eq_true ((rd_ix2 101 69 s[n]).symm.trans hd)),rd_get s (n + 1) h2]
 show (if s[n + 1] = 43 then _ else if s[n + 1] = 45 then _ else _) = _
 rw [if_pos (h3.resolve_right hn)]
theorem rdPow_yes (all : List UInt8) (down : Nat) (t : Bool) (h : n < s.size) (hd : rdD s[n] = true) : rdPow (s.data.toList.drop n) all down t = (true,all,down,(if t = true then - (rdTens (s.data.toList.drop (n + 1)) 0 s[n]).1 else (rdTens (s.data.toList.drop (n + 1)) 0 s[n]).1),(rdTens (s.data.toList.drop (n + 1)) 0 s[n]).2):=by
 rw [rd_get s n h,rdPow,if_pos hd]
theorem rdPow_no (all : List UInt8) (down : Nat) (t : Bool) (hd : ∀ h : n < s.size,rdD s[n] = false) : rdPow (s.data.toList.drop n) all down t = (false,all,down,0,s.data.toList.drop n):=by
 by_cases h : n < s.size
 ·rw [rd_get s n h,rdPow,if_neg (by rw [hd h];decide)]
 rw [rd_none s n h];rfl
end
set_option maxHeartbeats 4000000 in
set_option maxRecDepth 100000 in
theorem rd_read (g : Nat) (s : ByteArray) (n : Nat) (w : World) (hs : s.size ≤ 1099511627776) (hn : n ≤ s.size) (hg : g < w.heap.size) (v0 : Value) (hv0 : v0 = .slice none 0 0) (h : RdAt w g s n false v0 0 0) :
  Calls Tryz.prog 75 #[.pointer (some ⟨g,0,none⟩)] w fun e w'=>∃ (n' : Nat),e = .returned (.bool (rdAll (s.data.toList.drop n)).2.1) ∧
   RdS g s w w' n' (rdAll (s.data.toList.drop n)).1 (rdAll (s.data.toList.drop n)).2.2.1 (rdAll (s.data.toList.drop n)).2.2.2.1 (rdAll (s.data.toList.drop n)).2.2.2.2.1 0 ∧ s.data.toList.drop n' = (rdAll (s.data.toList.drop n)).2.2.2.2.2:=by
 have hB0 : RdB g s w w n false v0 [] 0 0:=⟨h,by rw [hv0];exact Kd.R_nil _ _ _ _ _,hg,Below.refl _ _⟩;have HB0:=Aside0.mk hB0;clear hB0 hv0;obtain ⟨c0,c1,c2,c3,c4,c5,fz⟩:=h.cells
 generalize hout : rdAll (s.data.toList.drop n) = no
 obtain ⟨neg,out⟩:=no;go_enter Tryz.func75,Tryz.ntmps75
 go_wp2_with fail
 refine wp_scope_fall (RdJ g s w neg out) (fun l a wr=>8 * (s.size - rdPos g wr) + rdRank l) ?first ?pass
 case first =>
  intro fall;have FALL:=Aside0.mk fall;clear fall;have HO:=Aside0.mk hout;clear hout
  go_wp2_with (go_at_call 95;refine (rd_take g s ⟨#[45]⟩ n false v0 0 0 w hs h).mono ?_;rintro e w1 ⟨x1,ok1,n1,rfl,hT,hG⟩;clear c0 c1 c2 c3 c4 c5 fz;obtain ⟨d0,d1,d2,d3,d4,d5,df⟩:=hT.blk.cells;have df2:=df 2;have HB1:=Aside0.mk (HB0.out.to (hT.set2 ok1));have HG1:=Aside0.mk hG;clear hT hG)
  have hfst : n1 ≤ s.size ∧ n ≤ n1 ∧ rdAll (s.data.toList.drop n) = (ok1,rdFirst (s.data.toList.drop n1)):=by
   rcases HG1.out with ⟨rfl,rfl,hlt,hd,_⟩|⟨rfl,rfl,_,hno⟩
   ·refine ⟨by omega,by omega,?_⟩;have hd':=(rd_ix1 45 s[n]).symm.trans hd;rw [rd_get s n hlt,rdAll,if_pos (of_decide_eq_true hd')]
   refine ⟨hn,Nat.le_refl _,?_⟩
   by_cases hlt : n1 < s.size
   ·have hd':=(rd_ix1 45 s[n1]).symm.trans (hno hlt);rw [rd_get s n1 hlt,rdAll,if_neg (of_decide_eq_false hd')]
   rw [rd_none s n1 hlt];rfl
  obtain ⟨hn1,hle1,hall⟩:=hfst;obtain ⟨rfl,ho⟩:=Prod.mk.inj (hall.symm.trans HO.out);have HF:=Aside0.mk ho;clear ho hall HG1 HO df2
  go_wp2_with (first|(go_at_call 96;refine (rd_digit g s n1 _ _ _ _ _ hs HB1.out.blk).mono ?_;rintro e w2 ⟨x2,ok2,n2,rfl,hT,hG⟩;(try clear d0 d1 d2 d3 d4 d5 df df3 df4 df5);(try clear e0 e1 e2 e3 e4 e5 ef ef4);obtain ⟨d0,d1,d2,d3,d4,d5,df⟩:=hT.blk.cells;have df3:=df 3;have df4:=df 4;have df5:=df 5;have HB2:=Aside0.mk (HB1.out.to hT);clear hT;rcases hG with ⟨rfl,rfl,hlt,hd,rfl⟩|⟨rfl,rfl,rfl,hno⟩;(cases h48 : ((s[n1].toNat : Int) == 48)))|(at_builtin;refine Kd.R_append (Kd.int .u8) (w0:=w) g rfl (.tmp 25) (.tmp 27) 43 5 (.int .u8 0) 1 rfl Tryz.underlying43 info5 rfl (by decide) (by omega) v0 (rd_ints []) (s[n1].toNat : Int) [.int .u8 (s[n1].toNat : Int)] (fun k=>k ≠ g) (fun _=>False) rfl rfl ?aP (fun _ hk=>hk.elim) ?aF ?aO ?aB ?aS ?aL ?_;(case aP=>exact rfl);(case aB=>exact HB2.out.below);(case aF=>exact (fun k hk he=>by have:=HB2.out.lt;omega));(case aO=>exact HB2.out.row);(case aS=>exact Nat.le_of_lt HB2.out.lt);(case aL=>first|(rw [rd_ints_len];simp;done)|(rw [rd_ints_len];simp;omega));intro v3 w3 ho hb hg3 hat;obtain ⟨A3,k3,e3⟩:=Kd.R_slice ho;rw [List.length_append,List.length_singleton] at e3;subst e3;obtain ⟨h3,h4⟩:=RdB.grown (c:=s[n1]) HB2.out ho hb hg3;clear ho hb hg3 hat;(try clear d0 d1 d2 d3 d4 d5 df df3 df4 df5);(try clear e0 e1 e2 e3 e4 e5 ef ef4);obtain ⟨d0,d1,d2,d3,d4,d5,df⟩:=h4.cells;have df3:=df 3;have df4:=df 4;have df5:=df 5;clear h4;have HB3:=Aside0.mk h3;clear h3))
  ·apply wp_label
   refine (show _ from ‹∀ (a : Act) (w : World),Code.wp _ _ _ a w → _› _ _ ?_);refine FALL.out 1 _ _ _ (by rfl) ⟨rfl,rfl,n1 + 1,s[n1],false,[s[n1]],0,0,rfl,rfl,rfl,?_,?_⟩
   ·exact ⟨by omega,⟨by simp,by simp⟩,_,HB3.out⟩
   have hf:=HF.out
   rw [rdFirst_yes hlt hd,if_neg (fun e=>by rw [e] at h48;simp at h48)] at hf
   exact ⟨rfl,rfl,hf⟩
  ·apply wp_goto
   refine ⟨rfl,rfl,n1 + 1,s[n1],false,[s[n1]],0,0,rfl,rfl,rfl,?_,?_⟩
   ·exact ⟨by omega,⟨by simp,by simp⟩,_,HB3.out⟩
   have hf:=HF.out
   rw [rdFirst_yes hlt hd,if_pos (UInt8.toNat_inj.mp (by show s[n1].toNat = 48;simp at h48;omega))] at hf
   exact ⟨rfl,rfl,hf⟩
  simp only [Exit.jumps];go_ret;have hf:=HF.out
  rw [rdFirst_no hno] at hf
  subst hf;exact ⟨n2,rfl,⟨by omega,⟨by simp,by simp⟩,_,HB2.out⟩,rfl⟩
 case pass =>
  intro l a wr hJ fall;have FALL:=Aside0.mk fall;clear fall;obtain ⟨hdf,hsz,p,x,t,all,down,exp,h0,h3,h5,hS,hrel⟩:=hJ;obtain ⟨u,hu,rfl⟩:=act_139 a hdf hsz;rw [hu 0 _ h0,hu 3 _ h3,hu 5 _ h5];clear hdf hsz h0 h3 h5 hu;obtain ⟨hp,hr,v,hB⟩:=hS;clear c0 c1 c2 c3 c4 c5 fz hout h HB0;obtain ⟨d0,d1,d2,d3,d4,d5,df⟩:=hB.blk.cells;have df3:=df 3;have df4:=df 4;have df5:=df 5;have HP:=Aside0.mk (rdPos_of hB.blk);have HB1:=Aside0.mk hB;clear hB
  rcases l with _|_|_|_|_|l
  ·refine ⟨_,rfl,?_⟩;have hfl4 : True:=trivial;obtain ⟨rfl,rfl,hf⟩:=hrel;have HF:=Aside0.mk hf;clear hf
   have hr1 : all.length ≤ p:=by have:=hr.1;simpa using this
   clear hr
   go_wp2_with (first|(clear hfl4;go_at_call 95;refine (rd_take g s ⟨#[46]⟩ p _ _ _ _ _ hs HB1.out.blk).mono ?_;rintro e w4 ⟨x4,ok4,n4,rfl,hT,hG⟩;(try clear d0 d1 d2 d3 d4 d5 df df3 df4 df5);(try clear e0 e1 e2 e3 e4 e5 ef ef4);obtain ⟨d0,d1,d2,d3,d4,d5,df⟩:=hT.blk.cells;have df3:=df 3;have df4:=df 4;have df5:=df 5;have HB4:=Aside0.mk (HB1.out.to hT);clear hT;rcases hG with ⟨rfl,rfl,hlt,hd,rfl⟩|⟨rfl,rfl,rfl,hno⟩)|(go_at_call 96;refine (rd_digit g s (p + 1) _ _ _ _ _ hs HB4.out.blk).mono ?_;rintro e w2 ⟨x2,ok2,n2,rfl,hT,hG⟩;(try clear d0 d1 d2 d3 d4 d5 df df3 df4 df5);(try clear e0 e1 e2 e3 e4 e5 ef ef4);obtain ⟨d0,d1,d2,d3,d4,d5,df⟩:=hT.blk.cells;have df3:=df 3;have df4:=df 4;have df5:=df 5;have HB2:=Aside0.mk (HB4.out.to hT);clear hT;rcases hG with ⟨rfl,rfl,hlt2,hd2,rfl⟩|⟨rfl,rfl,rfl,hno⟩))
   ·apply wp_label
    refine (show _ from ‹∀ (a : Act) (w : World),Code.wp _ _ _ a w → _› _ _ ?_);refine FALL.out 3 _ _ _ (by rfl) ⟨rfl,rfl,p + 1 + 1,s[p + 1],t,all,0,0,rfl,rfl,rfl,?_,?_⟩ ?_
    ·exact ⟨by omega,⟨by simp;omega,by simp⟩,_,HB2.out⟩
    ·exact ⟨rfl,by have hf:=HF.out;rw [rdPoint_dig all hlt hd hlt2 hd2] at hf;exact hf⟩
    show 8 * (s.size - rdPos g _) + rdRank 3 < 8 * (s.size - rdPos g _) + rdRank 0
    rw [rdPos_of HB2.out.blk,HP.out];have q0 : rdRank 0 = 3:=rfl;have q1 : rdRank 1 = 4:=rfl;have q2 : rdRank 2 = 1:=rfl;have q3 : rdRank 3 = 2:=rfl;have q4 : rdRank 4 = 0:=rfl
    omega
   ·simp only [Exit.jumps];go_ret;have hf:=HF.out
    rw [rdPoint_bad all hlt hd hno] at hf
    subst hf;exact ⟨p + 1,rfl,⟨by omega,⟨by simp;omega,by simp⟩,_,HB2.out⟩,rfl⟩
   apply wp_goto
   show RdJ g s w neg out _ _ _ ∧ _
   refine ⟨?_,?_⟩
   ·refine ⟨rfl,rfl,n4,x,t,all,0,0,rfl,rfl,rfl,?_,?_⟩
    ·exact ⟨by omega,⟨by simp;omega,by simp⟩,_,HB4.out⟩
    exact ⟨rfl,by have hf:=HF.out;rw [rdPoint_no all hno] at hf;exact hf⟩
   show 8 * (s.size - rdPos g _) + rdRank 2 < 8 * (s.size - rdPos g _) + rdRank 0
   rw [rdPos_of HB4.out.blk,HP.out];have q0 : rdRank 0 = 3:=rfl;have q1 : rdRank 1 = 4:=rfl;have q2 : rdRank 2 = 1:=rfl;have q3 : rdRank 3 = 2:=rfl;have q4 : rdRank 4 = 0:=rfl
   omega
  ·refine ⟨_,rfl,?_⟩;obtain ⟨rfl,rfl,hf⟩:=hrel;have HF:=Aside0.mk hf;clear hf
   have hr1 : all.length ≤ p:=by have:=hr.1;simpa using this
   clear hr
   go_wp2_with (first|(go_at_call 96;refine (rd_digit g s p _ _ _ _ _ hs HB1.out.blk).mono ?_;rintro e w2 ⟨x2,ok2,n2,rfl,hT,hG⟩;(try clear d0 d1 d2 d3 d4 d5 df df3 df4 df5);(try clear e0 e1 e2 e3 e4 e5 ef ef4);obtain ⟨d0,d1,d2,d3,d4,d5,df⟩:=hT.blk.cells;have df3:=df 3;have df4:=df 4;have df5:=df 5;have HB2:=Aside0.mk (HB1.out.to hT);clear hT;rcases hG with ⟨rfl,rfl,hlt,hd,rfl⟩|⟨rfl,rfl,rfl,hno⟩)|(at_builtin;refine Kd.R_append (Kd.int .u8) (w0:=w) g rfl (.tmp 43) (.tmp 45) 43 5 (.int .u8 0) 1 rfl Tryz.underlying43 info5 rfl (by decide) (by omega) v (rd_ints all) (s[p].toNat : Int) [.int .u8 (s[p].toNat : Int)] (fun k=>k ≠ g) (fun _=>False) rfl rfl ?aP (fun _ hk=>hk.elim) ?aF ?aO ?aB ?aS ?aL ?_;(case aP=>exact rfl);(case aB=>exact HB2.out.below);(case aF=>exact (fun k hk he=>by have:=HB2.out.lt;omega));(case aO=>exact HB2.out.row);(case aS=>exact Nat.le_of_lt HB2.out.lt);(case aL=>first|(rw [rd_ints_len];simp;done)|(rw [rd_ints_len];simp;omega));intro v3 w3 ho hb hg3 hat;obtain ⟨A3,k3,e3⟩:=Kd.R_slice ho;rw [List.length_append,List.length_singleton] at e3;subst e3;obtain ⟨h3,h4⟩:=RdB.grown (c:=s[p]) HB2.out ho hb hg3;clear ho hb hg3 hat;(try clear d0 d1 d2 d3 d4 d5 df df3 df4 df5);(try clear e0 e1 e2 e3 e4 e5 ef ef4);obtain ⟨d0,d1,d2,d3,d4,d5,df⟩:=h4.cells;have df3:=df 3;have df4:=df 4;have df5:=df 5;clear h4;have HB3:=Aside0.mk h3;clear h3))
   ·apply wp_goto
    show RdJ g s w neg out _ _ _ ∧ _
    refine ⟨?_,?_⟩
    ·refine ⟨rfl,rfl,p + 1,s[p],t,all ++ [s[p]],0,0,rfl,rfl,rfl,?_,?_⟩
     ·exact ⟨by omega,⟨by simp;omega,by simp⟩,_,HB3.out⟩
     exact ⟨rfl,rfl,by have hf:=HF.out;rw [rdWhole_yes all hlt hd] at hf;exact hf⟩
    show 8 * (s.size - rdPos g _) + rdRank 1 < 8 * (s.size - rdPos g _) + rdRank 1
    rw [rdPos_of HB3.out.blk,HP.out];have q0 : rdRank 0 = 3:=rfl;have q1 : rdRank 1 = 4:=rfl;have q2 : rdRank 2 = 1:=rfl;have q3 : rdRank 3 = 2:=rfl;have q4 : rdRank 4 = 0:=rfl
    omega
   apply wp_label
   refine (show _ from ‹∀ (a : Act) (w : World),Code.wp _ _ _ a w → _› _ _ ?_);refine FALL.out 0 _ _ _ (by rfl) ⟨rfl,rfl,n2,0,t,all,0,0,rfl,rfl,rfl,?_,?_⟩ ?_
   ·exact ⟨by omega,⟨by simp;omega,by simp⟩,_,HB2.out⟩
   ·exact ⟨rfl,rfl,by have hf:=HF.out;rw [rdWhole_no all hno] at hf;exact hf⟩
   show 8 * (s.size - rdPos g _) + rdRank 0 < 8 * (s.size - rdPos g _) + rdRank 1
   rw [rdPos_of HB2.out.blk,HP.out];have q0 : rdRank 0 = 3:=rfl;have q1 : rdRank 1 = 4:=rfl;have q2 : rdRank 2 = 1:=rfl;have q3 : rdRank 3 = 2:=rfl;have q4 : rdRank 4 = 0:=rfl
   omega
  ·refine ⟨_,rfl,?_⟩;have hfl4 : True:=trivial;have hfl5 : True:=trivial;obtain ⟨rfl,hf⟩:=hrel;have HF:=Aside0.mk hf;clear hf
   have hr1 : all.length ≤ p ∧ down ≤ p:=by simpa using hr
   clear hr
   go_wp2_with (clear hfl4;go_at_call 95;refine (rd_take g s ⟨#[101,69]⟩ p _ _ _ _ _ hs HB1.out.blk).mono ?_;rintro e w4 ⟨x4,ok4,n4,rfl,hT,hG⟩;(try clear d0 d1 d2 d3 d4 d5 df df3 df4 df5);(try clear e0 e1 e2 e3 e4 e5 ef ef4);obtain ⟨d0,d1,d2,d3,d4,d5,df⟩:=hT.blk.cells;have df3:=df 3;have df4:=df 4;have df5:=df 5;have HB4:=Aside0.mk (HB1.out.to hT);clear hT;rcases hG with ⟨rfl,rfl,hlt,hd,rfl⟩|⟨rfl,rfl,rfl,hno⟩)
   ·go_wp2_with (first|(clear hfl5;go_at_call 95;refine (rd_take g s ⟨#[43,45]⟩ _ _ _ _ _ _ hs HB4.out.blk).mono ?_;rintro e w5 ⟨x5,ok5,n5,rfl,hT,hG⟩;(try clear d0 d1 d2 d3 d4 d5 df df3 df4 df5);(try clear e0 e1 e2 e3 e4 e5 ef ef4);obtain ⟨d0,d1,d2,d3,d4,d5,df⟩:=hT.blk.cells;have df3:=df 3;have df4:=df 4;have df5:=df 5;have HB5:=Aside0.mk (HB4.out.to hT);clear hT;rcases hG with ⟨rfl,rfl,hlt2,hd2,rfl⟩|⟨rfl,rfl,rfl,hno2⟩;(first|(cases h45 : ((s[p + 1].toNat : Int) == 45))|skip))|(go_at_call 96;refine (rd_digit g s _ _ _ _ _ _ hs HB5.out.blk).mono ?_;rintro e w2 ⟨x2,ok2,n2,rfl,hT,hG⟩;(try clear d0 d1 d2 d3 d4 d5 df df3 df4 df5);(try clear e0 e1 e2 e3 e4 e5 ef ef4);obtain ⟨d0,d1,d2,d3,d4,d5,df⟩:=hT.blk.cells;have df3:=df 3;have df4:=df 4;have df5:=df 5;have HB2:=Aside0.mk (HB5.out.to hT);clear hT;rcases hG with ⟨rfl,rfl,hlt3,hd3,rfl⟩|⟨rfl,rfl,rfl,hno3⟩))
    ·have h45n : ¬ s[p + 1] = 45:=fun e=>by rw [e] at h45;simp at h45
     apply wp_label
     refine (show _ from ‹∀ (a : Act) (w : World),Code.wp _ _ _ a w → _› _ _ ?_);refine FALL.out 4 _ _ _ (by rfl) ⟨rfl,rfl,p + 1 + 1 + 1,s[p + 1 + 1],false,all,down,0,rfl,rfl,rfl,?_,?_⟩ ?_
     ·exact ⟨by omega,⟨by simp;omega,by simp;omega⟩,_,HB2.out⟩
     ·exact ⟨hd3,by decide,by decide,by have hf:=HF.out;rw [rdExp_plus all down hlt hd hlt2 hd2 h45n,rdPow_yes all down false hlt3 hd3] at hf;exact hf⟩
     show 8 * (s.size - rdPos g _) + rdRank 4 < 8 * (s.size - rdPos g _) + rdRank 2
     rw [rdPos_of HB2.out.blk,HP.out];have q0 : rdRank 0 = 3:=rfl;have q1 : rdRank 1 = 4:=rfl;have q2 : rdRank 2 = 1:=rfl;have q3 : rdRank 3 = 2:=rfl;have q4 : rdRank 4 = 0:=rfl
     omega
    ·have h45n : ¬ s[p + 1] = 45:=fun e=>by rw [e] at h45;simp at h45
     simp only [Exit.jumps];go_ret;have hf:=HF.out
     rw [rdExp_plus all down hlt hd hlt2 hd2 h45n,rdPow_no all down false hno3] at hf
     subst hf;exact ⟨p + 1 + 1,rfl,⟨by omega,⟨by simp;omega,by simp;omega⟩,_,HB2.out⟩,rfl⟩
    ·have h45y : s[p + 1] = 45:=UInt8.toNat_inj.mp (by show s[p + 1].toNat = 45;simp at h45;omega)
     apply wp_label
     refine (show _ from ‹∀ (a : Act) (w : World),Code.wp _ _ _ a w → _› _ _ ?_);refine FALL.out 4 _ _ _ (by rfl) ⟨rfl,rfl,p + 1 + 1 + 1,s[p + 1 + 1],true,all,down,0,rfl,rfl,rfl,?_,?_⟩ ?_
     ·exact ⟨by omega,⟨by simp;omega,by simp;omega⟩,_,HB2.out⟩
     ·exact ⟨hd3,by decide,by decide,by have hf:=HF.out;rw [rdExp_minus all down hlt hd hlt2 h45y,rdPow_yes all down true hlt3 hd3] at hf;exact hf⟩
     show 8 * (s.size - rdPos g _) + rdRank 4 < 8 * (s.size - rdPos g _) + rdRank 2
     rw [rdPos_of HB2.out.blk,HP.out];have q0 : rdRank 0 = 3:=rfl;have q1 : rdRank 1 = 4:=rfl;have q2 : rdRank 2 = 1:=rfl;have q3 : rdRank 3 = 2:=rfl;have q4 : rdRank 4 = 0:=rfl
     omega
    ·have h45y : s[p + 1] = 45:=UInt8.toNat_inj.mp (by show s[p + 1].toNat = 45;simp at h45;omega);simp only [Exit.jumps];go_ret;have hf:=HF.out
     rw [rdExp_minus all down hlt hd hlt2 h45y,rdPow_no all down true hno3] at hf
     subst hf;exact ⟨p + 1 + 1,rfl,⟨by omega,⟨by simp;omega,by simp;omega⟩,_,HB2.out⟩,rfl⟩
    ·apply wp_label
     refine (show _ from ‹∀ (a : Act) (w : World),Code.wp _ _ _ a w → _› _ _ ?_);refine FALL.out 4 _ _ _ (by rfl) ⟨rfl,rfl,p + 1 + 1,s[p + 1],false,all,down,0,rfl,rfl,rfl,?_,?_⟩ ?_
     ·exact ⟨by omega,⟨by simp;omega,by simp;omega⟩,_,HB2.out⟩
     ·exact ⟨hd3,by decide,by decide,by have hf:=HF.out;rw [rdExp_bare all down hlt hd hno2,rdPow_yes all down false hlt3 hd3] at hf;exact hf⟩
     show 8 * (s.size - rdPos g _) + rdRank 4 < 8 * (s.size - rdPos g _) + rdRank 2
     rw [rdPos_of HB2.out.blk,HP.out];have q0 : rdRank 0 = 3:=rfl;have q1 : rdRank 1 = 4:=rfl;have q2 : rdRank 2 = 1:=rfl;have q3 : rdRank 3 = 2:=rfl;have q4 : rdRank 4 = 0:=rfl
     omega
    simp only [Exit.jumps];go_ret;have hf:=HF.out
    rw [rdExp_bare all down hlt hd hno2,rdPow_no all down false hno3] at hf
    subst hf;exact ⟨p + 1,rfl,⟨by omega,⟨by simp;omega,by simp;omega⟩,_,HB2.out⟩,rfl⟩
   simp only [Exit.jumps];go_ret;have hf:=HF.out
   rw [rdExp_no all down hno] at hf
   subst hf;exact ⟨_,rfl,⟨by omega,⟨by simp;omega,by simp;omega⟩,_,HB4.out⟩,rfl⟩
  ·refine ⟨_,rfl,?_⟩;obtain ⟨rfl,hf⟩:=hrel;have HF:=Aside0.mk hf;clear hf
   have hr1 : all.length + 1 ≤ p ∧ down + 1 ≤ p:=by simpa using hr
   clear hr
   go_wp2_with (first|(at_builtin;refine Kd.R_append (Kd.int .u8) (w0:=w) g rfl (.tmp 67) (.tmp 69) 43 5 (.int .u8 0) 1 rfl Tryz.underlying43 info5 rfl (by decide) (by omega) v (rd_ints all) (x.toNat : Int) [.int .u8 (x.toNat : Int)] (fun k=>k ≠ g) (fun _=>False) rfl rfl ?aP (fun _ hk=>hk.elim) ?aF ?aO ?aB ?aS ?aL ?_;(case aP=>exact rfl);(case aB=>exact HB1.out.below);(case aF=>exact (fun k hk he=>by have:=HB1.out.lt;omega));(case aO=>exact HB1.out.row);(case aS=>exact Nat.le_of_lt HB1.out.lt);(case aL=>first|(rw [rd_ints_len];simp;done)|(rw [rd_ints_len];simp;omega));intro v3 w3 ho hb hg3 hat;obtain ⟨A3,k3,e3⟩:=Kd.R_slice ho;rw [List.length_append,List.length_singleton] at e3;subst e3;obtain ⟨h3,h4⟩:=RdB.grown (c:=x) HB1.out ho hb hg3;clear ho hb hg3 hat;(try clear d0 d1 d2 d3 d4 d5 df df3 df4 df5);(try clear e0 e1 e2 e3 e4 e5 ef ef4);obtain ⟨d0,d1,d2,d3,d4,d5,df⟩:=h4.cells;have df3:=df 3;have df4:=df 4;have df5:=df 5;clear h4;have HB3:=Aside0.mk h3;clear h3)|fail)
   have HB5:=Aside0.mk (HB3.out.to ((RdTo.self HB3.out.blk).set4 ((down : Int) + 1)))
   go_wp2_with (go_at_call 96;refine (rd_digit g s _ _ _ _ _ _ hs HB5.out.blk).mono ?_;rintro e w2 ⟨x2,ok2,n2,rfl,hT,hG⟩;(try clear d0 d1 d2 d3 d4 d5 df df3 df4 df5);(try clear e0 e1 e2 e3 e4 e5 ef ef4);obtain ⟨d0,d1,d2,d3,d4,d5,df⟩:=hT.blk.cells;have df3:=df 3;have df4:=df 4;have df5:=df 5;have HB2:=Aside0.mk (HB5.out.to hT);clear hT;rcases hG with ⟨rfl,rfl,hlt,hd,rfl⟩|⟨rfl,rfl,rfl,hno⟩)
   ·apply wp_goto
    show RdJ g s w neg out _ _ _ ∧ _
    refine ⟨?_,?_⟩
    ·refine ⟨rfl,rfl,p + 1,s[p],t,all ++ [x],down + 1,0,rfl,rfl,rfl,?_,?_⟩
     ·exact ⟨by omega,⟨by simp;omega,by simp;omega⟩,_,HB2.out⟩
     exact ⟨rfl,by have hf:=HF.out;rw [rdBelow_yes all down x hlt hd] at hf;exact hf⟩
    show 8 * (s.size - rdPos g _) + rdRank 3 < 8 * (s.size - rdPos g _) + rdRank 3
    rw [rdPos_of HB2.out.blk,HP.out];have q0 : rdRank 0 = 3:=rfl;have q1 : rdRank 1 = 4:=rfl;have q2 : rdRank 2 = 1:=rfl;have q3 : rdRank 3 = 2:=rfl;have q4 : rdRank 4 = 0:=rfl
    omega
   apply wp_label
   refine (show _ from ‹∀ (a : Act) (w : World),Code.wp _ _ _ a w → _› _ _ ?_);refine FALL.out 2 _ _ _ (by rfl) ⟨rfl,rfl,n2,0,t,all ++ [x],down + 1,0,rfl,rfl,rfl,?_,?_⟩ ?_
   ·exact ⟨by omega,⟨by simp;omega,by simp;omega⟩,_,HB2.out⟩
   ·exact ⟨rfl,by have hf:=HF.out;rw [rdBelow_no all down x hno] at hf;exact hf⟩
   show 8 * (s.size - rdPos g _) + rdRank 2 < 8 * (s.size - rdPos g _) + rdRank 3
   rw [rdPos_of HB2.out.blk,HP.out];have q0 : rdRank 0 = 3:=rfl;have q1 : rdRank 1 = 4:=rfl;have q2 : rdRank 2 = 1:=rfl;have q3 : rdRank 3 = 2:=rfl;have q4 : rdRank 4 = 0:=rfl
   omega
  ·refine ⟨_,rfl,?_⟩;obtain ⟨hx,he0,he1,hf⟩:=hrel;have HF:=Aside0.mk hf;clear hf
   have hr1 : all.length ≤ p ∧ down ≤ p:=by simpa using hr
   clear hr;have hx2 : 48 ≤ x.toNat ∧ x.toNat ≤ 57:=of_decide_eq_true hx;cases t
   ·by_cases hfar : exp < 1125899906842624
    ·have he : (10 * exp + ((x.toNat : Int) - 48)) = rdE exp x:=by unfold rdE;rw [if_pos hfar]
     have HE:=Aside0.mk he;clear he
     go_wp2_with fail
     have HB5:=Aside0.mk (HB1.out.to ((RdTo.self HB1.out.blk).set5 (10 * exp + ((x.toNat : Int) - 48))))
     go_wp2_with (go_at_call 96;refine (rd_digit g s _ _ _ _ _ _ hs HB5.out.blk).mono ?_;rintro e w2 ⟨x2,ok2,n2,rfl,hT,hG⟩;(try clear d0 d1 d2 d3 d4 d5 df df3 df4 df5);(try clear e0 e1 e2 e3 e4 e5 ef ef4);obtain ⟨d0,d1,d2,d3,d4,d5,df⟩:=hT.blk.cells;have df3:=df 3;have df4:=df 4;have df5:=df 5;have HB2:=Aside0.mk (HB5.out.to hT);clear hT;rcases hG with ⟨rfl,rfl,hlt,hd,rfl⟩|⟨rfl,rfl,rfl,hno⟩)
     ·have hb0 : 0 ≤ rdE exp x ∧ rdE exp x ≤ 18014398509481984:=by rw [← HE.out];omega
      apply wp_goto
      show RdJ g s w neg out _ _ _ ∧ _
      refine ⟨?_,?_⟩
      ·refine ⟨rfl,rfl,p + 1,s[p],false,all,down,rdE exp x,rfl,rfl,rfl,?_,?_⟩
       ·exact ⟨by omega,⟨by simp;omega,by simp;omega⟩,_,by rw [← HE.out];exact HB2.out⟩
       exact ⟨hd,hb0.1,hb0.2,by have hf:=HF.out;rw [rdTens_yes exp x hlt hd] at hf;exact hf⟩
      show 8 * (s.size - rdPos g _) + rdRank 4 < 8 * (s.size - rdPos g _) + rdRank 4
      rw [rdPos_of HB2.out.blk,HP.out];have q0 : rdRank 0 = 3:=rfl;have q1 : rdRank 1 = 4:=rfl;have q2 : rdRank 2 = 1:=rfl;have q3 : rdRank 3 = 2:=rfl;have q4 : rdRank 4 = 0:=rfl
      omega
     simp only [Exit.jumps];go_ret;have hf:=HF.out
     rw [rdTens_no exp x hno] at hf
     subst hf;have hB7:=HB2.out;refine ⟨n2,rfl,⟨by omega,⟨by simp;omega,by simp;omega⟩,v,?_⟩,rfl⟩
     show RdB g s w _ n2 neg v all down (rdE exp x)
     rw [← HE.out];exact hB7
    have he : exp = rdE exp x:=by unfold rdE;rw [if_neg hfar]
    have HE:=Aside0.mk he;clear he
    go_wp2_with fail
    have HB5:=Aside0.mk (HB1.out)
    go_wp2_with (go_at_call 96;refine (rd_digit g s _ _ _ _ _ _ hs HB5.out.blk).mono ?_;rintro e w2 ⟨x2,ok2,n2,rfl,hT,hG⟩;(try clear d0 d1 d2 d3 d4 d5 df df3 df4 df5);(try clear e0 e1 e2 e3 e4 e5 ef ef4);obtain ⟨d0,d1,d2,d3,d4,d5,df⟩:=hT.blk.cells;have df3:=df 3;have df4:=df 4;have df5:=df 5;have HB2:=Aside0.mk (HB5.out.to hT);clear hT;rcases hG with ⟨rfl,rfl,hlt,hd,rfl⟩|⟨rfl,rfl,rfl,hno⟩)
    ·have hb0 : 0 ≤ rdE exp x ∧ rdE exp x ≤ 18014398509481984:=by rw [← HE.out];omega
     apply wp_goto
     show RdJ g s w neg out _ _ _ ∧ _
     refine ⟨?_,?_⟩
     ·refine ⟨rfl,rfl,p + 1,s[p],false,all,down,rdE exp x,rfl,rfl,rfl,?_,?_⟩
      ·exact ⟨by omega,⟨by simp;omega,by simp;omega⟩,_,by rw [← HE.out];exact HB2.out⟩
      exact ⟨hd,hb0.1,hb0.2,by have hf:=HF.out;rw [rdTens_yes exp x hlt hd] at hf;exact hf⟩
     show 8 * (s.size - rdPos g _) + rdRank 4 < 8 * (s.size - rdPos g _) + rdRank 4
     rw [rdPos_of HB2.out.blk,HP.out];have q0 : rdRank 0 = 3:=rfl;have q1 : rdRank 1 = 4:=rfl;have q2 : rdRank 2 = 1:=rfl;have q3 : rdRank 3 = 2:=rfl;have q4 : rdRank 4 = 0:=rfl
     omega
    simp only [Exit.jumps];go_ret;have hf:=HF.out
    rw [rdTens_no exp x hno] at hf
    subst hf;have hB7:=HB2.out;refine ⟨n2,rfl,⟨by omega,⟨by simp;omega,by simp;omega⟩,v,?_⟩,rfl⟩
    show RdB g s w _ n2 neg v all down (rdE exp x)
    rw [← HE.out];exact hB7
   by_cases hfar : exp < 1125899906842624
   ·have he : (10 * exp + ((x.toNat : Int) - 48)) = rdE exp x:=by unfold rdE;rw [if_pos hfar]
    have HE:=Aside0.mk he;clear he
    go_wp2_with fail
    have HB5:=Aside0.mk (HB1.out.to ((RdTo.self HB1.out.blk).set5 (10 * exp + ((x.toNat : Int) - 48))))
    go_wp2_with (go_at_call 96;refine (rd_digit g s _ _ _ _ _ _ hs HB5.out.blk).mono ?_;rintro e w2 ⟨x2,ok2,n2,rfl,hT,hG⟩;(try clear d0 d1 d2 d3 d4 d5 df df3 df4 df5);(try clear e0 e1 e2 e3 e4 e5 ef ef4);obtain ⟨d0,d1,d2,d3,d4,d5,df⟩:=hT.blk.cells;have df3:=df 3;have df4:=df 4;have df5:=df 5;have HB2:=Aside0.mk (HB5.out.to hT);clear hT;rcases hG with ⟨rfl,rfl,hlt,hd,rfl⟩|⟨rfl,rfl,rfl,hno⟩)
    ·have hb0 : 0 ≤ rdE exp x ∧ rdE exp x ≤ 18014398509481984:=by rw [← HE.out];omega
     apply wp_goto
     show RdJ g s w neg out _ _ _ ∧ _
     refine ⟨?_,?_⟩
     ·refine ⟨rfl,rfl,p + 1,s[p],true,all,down,rdE exp x,rfl,rfl,rfl,?_,?_⟩
      ·exact ⟨by omega,⟨by simp;omega,by simp;omega⟩,_,by rw [← HE.out];exact HB2.out⟩
      exact ⟨hd,hb0.1,hb0.2,by have hf:=HF.out;rw [rdTens_yes exp x hlt hd] at hf;exact hf⟩
     show 8 * (s.size - rdPos g _) + rdRank 4 < 8 * (s.size - rdPos g _) + rdRank 4
     rw [rdPos_of HB2.out.blk,HP.out];have q0 : rdRank 0 = 3:=rfl;have q1 : rdRank 1 = 4:=rfl;have q2 : rdRank 2 = 1:=rfl;have q3 : rdRank 3 = 2:=rfl;have q4 : rdRank 4 = 0:=rfl
     omega
    simp only [Exit.jumps];go_ret;have hf:=HF.out
    rw [rdTens_no exp x hno] at hf
    subst hf;have hB7:=HB2.out.to ((RdTo.self HB2.out.blk).set5 (-(10 * exp + ((x.toNat : Int) - 48))));refine ⟨n2,rfl,⟨by omega,⟨by simp;omega,by simp;omega⟩,v,?_⟩,rfl⟩
    show RdB g s w _ n2 neg v all down (-rdE exp x)
    rw [← HE.out];exact hB7
   have he : exp = rdE exp x:=by unfold rdE;rw [if_neg hfar]
   have HE:=Aside0.mk he;clear he
   go_wp2_with fail
   have HB5:=Aside0.mk (HB1.out)
   go_wp2_with (go_at_call 96;refine (rd_digit g s _ _ _ _ _ _ hs HB5.out.blk).mono ?_;rintro e w2 ⟨x2,ok2,n2,rfl,hT,hG⟩;(try clear d0 d1 d2 d3 d4 d5 df df3 df4 df5);(try clear e0 e1 e2 e3 e4 e5 ef ef4);obtain ⟨d0,d1,d2,d3,d4,d5,df⟩:=hT.blk.cells;have df3:=df 3;have df4:=df 4;have df5:=df 5;have HB2:=Aside0.mk (HB5.out.to hT);clear hT;rcases hG with ⟨rfl,rfl,hlt,hd,rfl⟩|⟨rfl,rfl,rfl,hno⟩)
   ·have hb0 : 0 ≤ rdE exp x ∧ rdE exp x ≤ 18014398509481984:=by rw [← HE.out];omega
    apply wp_goto
    show RdJ g s w neg out _ _ _ ∧ _
    refine ⟨?_,?_⟩
    ·refine ⟨rfl,rfl,p + 1,s[p],true,all,down,rdE exp x,rfl,rfl,rfl,?_,?_⟩
     ·exact ⟨by omega,⟨by simp;omega,by simp;omega⟩,_,by rw [← HE.out];exact HB2.out⟩
     exact ⟨hd,hb0.1,hb0.2,by have hf:=HF.out;rw [rdTens_yes exp x hlt hd] at hf;exact hf⟩
    show 8 * (s.size - rdPos g _) + rdRank 4 < 8 * (s.size - rdPos g _) + rdRank 4
    rw [rdPos_of HB2.out.blk,HP.out];have q0 : rdRank 0 = 3:=rfl;have q1 : rdRank 1 = 4:=rfl;have q2 : rdRank 2 = 1:=rfl;have q3 : rdRank 3 = 2:=rfl;have q4 : rdRank 4 = 0:=rfl
    omega
   simp only [Exit.jumps];go_ret;have hf:=HF.out
   rw [rdTens_no exp x hno] at hf
   subst hf;have hB7:=HB2.out.to ((RdTo.self HB2.out.blk).set5 (-exp));refine ⟨n2,rfl,⟨by omega,⟨by simp;omega,by simp;omega⟩,v,?_⟩,rfl⟩
   show RdB g s w _ n2 neg v all down (-rdE exp x)
   rw [← HE.out];exact hB7
  exact hrel.elim
end Go.Proofs.YtlgamjgdkljfiacGreatDoor.PWritePretties
