-- Written by shrink.py, a program of this session: what the law needs of the print and its words. Lean checks it.
import Derived.Test.YtfaegleohhemkaaDoorZPPointerLikesx0
import Derived.Lib.Strings
import Derived.Lib.OthersKept
import Derived.Laws.RangeAny
import Derived.LoopTactic
import Derived.BigCall
import Derived.Deep.RegionLaw
import Derived.WalkSmall
namespace Go.Proofs.YtfaegleohhemkaaDoor.PPointerLikes
open Go.RowKit Go.Proofs.YtfaegleohhemkaaDoorW.PrintWords Go.Proofs.YtfaegleohhemkaaDoorW.PrintLast Go.Proofs.YtfaegleohhemkaaDoorW.PrintMore
attribute [local go_sem] max2_int min2_int max_two min_two max_three min_three max_four min_four
set_option linter.unusedVariables false
set_option linter.unusedSimpArgs false
def namesGo : List UInt8 → Bool → List (List UInt8) → List UInt8 → Option (List (List UInt8))
 | [],true,_,_=>none
 | [],false,done,cur=>some (done ++ [cur])
 | c :: r,true,done,cur=>if c = 49 then namesGo r false done (cur ++ [47]) else if c = 48 then namesGo r false done (cur ++ [126]) else none
 | c :: r,false,done,cur=>if c = 47 then namesGo r false (done ++ [cur]) [] else if c = 126 then namesGo r true done cur else namesGo r false done (cur ++ [c])
def namesOf : List UInt8 → Option (List (List UInt8))
 | []=>some []
 | c :: r=>if c = 47 then namesGo r false [] [] else none
def bas (l : List (List UInt8)) : List ByteArray:=l.map fun x=>(⟨x.toArray⟩ : ByteArray)
def parseV (s : ByteArray) : List ByteArray × Int:=match namesOf s.data.toList with|some l=>(bas l,0)|none=>([],200)
def pointer_Parse.f (a0 : ByteArray) : Option (List ByteArray × Int):=if a0.size ≤ 1099511627776 then some (parseV a0) else none
theorem pp_get (s : ByteArray) (i : Nat) (h : i < s.size) : s.data.toList.drop i = s[i] :: s.data.toList.drop (i + 1):=by
 have h' : i < s.data.toList.length:=by rw [data_length];exact h
 rw [List.drop_eq_getElem_cons h'];rfl
theorem pp_high (s : ByteArray) (pos : Nat) (h : pos < s.size) (ha : 128 ≤ (s[pos]'h).toNat) : ∀ j,j < (Utf8.decode s pos).2 → ∃ hj : pos + j < s.size,128 ≤ (s[pos + j]'hj).toNat:=by
 have hget : ∀ k (hk : pos + k < s.size),s.get! (pos + k) = s[pos + k]'hk:=fun k hk=>get_at s (pos + k) hk
 have hcont : ∀ k,pos + k < s.size → (s.get! (pos + k)).toNat / 64 = 2 → ∃ hk : pos + k < s.size,128 ≤ (s[pos + k]'hk).toNat:=by
  intro k h1 h2;refine ⟨h1,?_⟩
  rw [hget k h1] at h2
  omega
 clear hget
 have h0 : ∃ hj : pos + 0 < s.size,128 ≤ (s[pos + 0]'hj).toNat:=⟨h,ha⟩
 have hn : ¬ (s[pos]'h).toNat < 128:=by omega
 intro j hj
 simp only [Utf8.decode,get_at s pos h,hn,if_false] at hj
 repeat' split at hj
 all_goals simp only [Bool.and_eq_true] at *
 all_goals (rcases j with _|_|_|_|j)
 all_goals first
  | exact h0
  | (exfalso;simp at hj;done)
  | (exfalso;omega)
  | (refine hcont _ ?_ ?_ <;> (clear hcont h0;simp_all;done))
def pp_ints (l : List UInt8) : List Int:=l.map fun c=>(c.toNat : Int)
theorem pp_skip (s : ByteArray) (done : List (List UInt8)) : ∀ (k pos : Nat) (cur : List UInt8),(∀ j,j < k → ∃ hj : pos + j < s.size,128 ≤ (s[pos + j]'hj).toNat) →
  namesGo (s.data.toList.drop pos) false done cur = namesGo (s.data.toList.drop (pos + k)) false done (cur ++ (s.data.toList.drop pos).take k)
 | 0,pos,cur,_=>by simp
 | k + 1,pos,cur,h=>by
  obtain ⟨h0,h1⟩:=h 0 (by omega);rw [pp_get s pos h0]
  have n1 : ¬ (s[pos]'h0) = 47:=fun e=>by have h2 : 128 ≤ (s[pos]'h0).toNat:=h1;rw [e] at h2;exact absurd h2 (by decide)
  have n2 : ¬ (s[pos]'h0) = 126:=fun e=>by have h2 : 128 ≤ (s[pos]'h0).toNat:=h1;rw [e] at h2;exact absurd h2 (by decide)
  rw [namesGo,if_neg n1,if_neg n2]
  rw [pp_skip s done k (pos + 1) (cur ++ [s[pos]]) (fun j hj=>by
   obtain ⟨h2,h3⟩:=h (j + 1) (by omega)
   have e : pos + (j + 1) = pos + 1 + j:=by omega
   exact ⟨by omega,by simpa [e] using h3⟩)]
  rw [show pos + 1 + k = pos + (k + 1) by omega,List.take_succ_cons]
  simp
def pp_seg (s : ByteArray) (a b : Nat) : List UInt8:=(s.data.toList.drop a).take (b - a)
def PRel (s : ByteArray) (pos : Nat) (tu : Bool) (out : List ByteArray) (nm : List UInt8) (fr : Nat) : Prop :=
 (pos = 0 ∧ tu = false ∧ out = [] ∧ nm = [] ∧ fr = 0) ∨
 (0 < pos ∧ (tu = false → fr ≤ pos) ∧ fr ≤ s.size ∧ ∃ done,out = bas done ∧ namesGo (s.data.toList.drop pos) tu done (if tu then nm else nm ++ pp_seg s fr pos) = namesOf s.data.toList)
theorem pp_seg_snoc (s : ByteArray) (fr pos : Nat) (h : pos < s.size) (hf : fr ≤ pos) : pp_seg s fr (pos + 1) = pp_seg s fr pos ++ [s[pos]]:=by
 unfold pp_seg
 have h1 : pos - fr < (s.data.toList.drop fr).length:=by rw [List.length_drop,data_length];omega
 rw [show pos + 1 - fr = (pos - fr) + 1 by omega,List.take_succ_eq_append_getElem h1]
 congr 2
 rw [List.getElem_drop];simp only [show fr + (pos - fr) = pos by omega];rfl
theorem pp_seg_more (s : ByteArray) (fr pos k : Nat) (hf : fr ≤ pos) : pp_seg s fr (pos + k) = pp_seg s fr pos ++ (s.data.toList.drop pos).take k:=by
 unfold pp_seg
 rw [show pos + k - fr = (pos - fr) + k by omega,List.take_add,List.drop_drop];rw [show fr + (pos - fr) = pos by omega]
section
variable {s : ByteArray} {pos : Nat} {out : List ByteArray} {nm : List UInt8} {fr : Nat}
theorem pp_one (h : PRel s pos true out nm fr) (hp : pos < s.size) (hc : s[pos] = 49) : PRel s (pos + 1) false out (nm ++ [47]) (pos + 1):=by
 rcases h with ⟨_,h,_⟩|⟨h0,h1,h2,done,rfl,hg⟩
 ·cases h
 refine .inr ⟨by omega,fun _=>Nat.le_refl _,by omega,done,rfl,?_⟩
 rw [pp_get s pos hp,if_pos rfl,namesGo,if_pos hc] at hg
 rw [← hg]
 simp [pp_seg]
theorem pp_nought (h : PRel s pos true out nm fr) (hp : pos < s.size) (hc : s[pos] = 48) : PRel s (pos + 1) false out (nm ++ [126]) (pos + 1):=by
 rcases h with ⟨_,h,_⟩|⟨h0,h1,h2,done,rfl,hg⟩
 ·cases h
 refine .inr ⟨by omega,fun _=>Nat.le_refl _,by omega,done,rfl,?_⟩
 rw [pp_get s pos hp,if_pos rfl,namesGo,if_neg (by rw [hc];decide),if_pos hc] at hg
 rw [← hg]
 simp [pp_seg]
theorem pp_bad (h : PRel s pos true out nm fr) (hp : pos < s.size) (h1 : ¬ s[pos] = 49) (h2 : ¬ s[pos] = 48) : parseV s = ([],200):=by
 rcases h with ⟨_,h,_⟩|⟨_,_,_,done,rfl,hg⟩
 ·cases h
 rw [pp_get s pos hp,namesGo,if_neg h1,if_neg h2] at hg
 unfold parseV
 rw [← hg]
theorem pp_first (h0 : 0 < s.size) (hc : s[0] = 47) : PRel s 1 false [] [] 1:=by
 refine .inr ⟨by omega,fun _=>Nat.le_refl _,by omega,[],rfl,?_⟩
 have e : s.data.toList = s[0] :: s.data.toList.drop 1:=by have:=pp_get s 0 h0;rwa [List.drop_zero] at this
 conv=>rhs;rw [e,namesOf,if_pos hc]
 simp [pp_seg]
theorem pp_slash (h : PRel s pos false out nm fr) (hp : pos < s.size) (h0 : 0 < pos) (hc : s[pos] = 47) : PRel s (pos + 1) false (out ++ [⟨(nm ++ pp_seg s fr pos).toArray⟩]) [] (pos + 1) ∧ fr ≤ pos:=by
 rcases h with ⟨h,_⟩|⟨_,h1,h2,done,rfl,hg⟩
 ·omega
 refine ⟨.inr ⟨by omega,fun _=>Nat.le_refl _,by omega,done ++ [nm ++ pp_seg s fr pos],by simp [bas],?_⟩,h1 rfl⟩
 rw [pp_get s pos hp,if_neg (by simp),namesGo,if_pos hc] at hg
 rw [← hg]
 simp [pp_seg]
theorem pp_tilde (h : PRel s pos false out nm fr) (hp : pos < s.size) (h0 : 0 < pos) (hc : s[pos] = 126) : PRel s (pos + 1) true out (nm ++ pp_seg s fr pos) fr ∧ fr ≤ pos:=by
 rcases h with ⟨h,_⟩|⟨_,h1,h2,done,rfl,hg⟩
 ·omega
 refine ⟨.inr ⟨by omega,fun h=>by simp at h,h2,done,rfl,?_⟩,h1 rfl⟩
 rw [pp_get s pos hp,if_neg (by simp),namesGo,if_neg (by rw [hc];decide),if_pos hc] at hg
 rw [← hg]
 simp
theorem pp_else (h : PRel s pos false out nm fr) (hp : pos < s.size) (h0 : 0 < pos) (h1 : ¬ s[pos] = 47) (h2 : ¬ s[pos] = 126) : PRel s (pos + 1) false out nm fr:=by
 rcases h with ⟨h,_⟩|⟨_,hf,hz,done,rfl,hg⟩
 ·omega
 refine .inr ⟨by omega,fun h=>by have:=hf h;omega,hz,done,rfl,?_⟩
 rw [pp_get s pos hp,if_neg (by simp),namesGo,if_neg h1,if_neg h2] at hg
 rw [← hg,if_neg (by simp),pp_seg_snoc s fr pos hp (hf rfl),List.append_assoc]
theorem pp_wide (h : PRel s pos false out nm fr) (hp : pos < s.size) (h0 : 0 < pos) (ha : 128 ≤ s[pos].toNat) : PRel s (pos + (Utf8.decode s pos).2) false out nm fr:=by
 rcases h with ⟨h,_⟩|⟨_,hf,hz,done,rfl,hg⟩
 ·omega
 refine .inr ⟨by omega,fun h=>by have:=hf h;omega,hz,done,rfl,?_⟩
 rw [if_neg (by simp)] at hg ⊢
 rw [pp_skip s done (Utf8.decode s pos).2 pos _ (pp_high s pos hp ha)] at hg
 rw [← hg,pp_seg_more s fr pos _ (hf rfl),List.append_assoc]
theorem pp_end_turned (h : PRel s pos true out nm fr) (hp : ¬ pos < s.size) : parseV s = ([],200):=by
 rcases h with ⟨_,h,_⟩|⟨_,_,_,done,rfl,hg⟩
 ·cases h
 rw [List.drop_of_length_le (by rw [data_length];omega),namesGo] at hg
 unfold parseV
 rw [← hg]
theorem pp_end (h : PRel s pos false out nm fr) (hp : ¬ pos < s.size) (h0 : 0 < s.size) : parseV s = (out ++ [⟨(nm ++ (s.data.toList.drop fr)).toArray⟩],0):=by
 rcases h with ⟨h,_⟩|⟨_,hf,hz,done,rfl,hg⟩
 ·omega
 rw [List.drop_of_length_le (by rw [data_length];omega),if_neg (by simp),namesGo] at hg
 unfold parseV
 rw [← hg]
 have e : pp_seg s fr pos = s.data.toList.drop fr:=by
  unfold pp_seg
  exact List.take_of_length_le (by rw [List.length_drop,data_length];omega)
 simp [bas,e]
end
theorem pp_it_grown {W W1 : World} {k base n sz e : Nat} {s : ByteArray} {p : Nat} {v : Value} {xs : List Value} (h : W.heap[k]? = some (.stringIter s p)) (ho : W.ownsRow base e sz v n xs) (hg : W.grownBy W1 v.ownBlock) : W1.heap[k]? = some (.stringIter s p):=by
 refine (hg.block k (blk_lt h) (fun he=>?_)).trans h;obtain ⟨cells,hc⟩:=own_typed ho k he.symm
 rw [h] at hc
 cases hc
theorem pp_R_iter {α : Type} {d : Kd α} {e base : Nat} {W : World} {ok : Nat → Prop} {v : Value} {xs : List α} {k : Nat} {s : ByteArray} {p q : Nat} (h : d.R e W base ok v xs) (hk : W.heap[k]? = some (.stringIter s p)) : d.R e (W.iterAt k s q) base ok v xs:=by
 refine Kd.R_mono (Kd.R_move (Kd.R_bound h) (fun j hj=>?_)) (fun _ hj=>hj.1);obtain ⟨_,_,_,q',_,cells,hc⟩:=hj;refine Lib.iterAt_other W k j s q ?_;rintro rfl
 rw [hk] at hc
 cases hc
theorem pp_R_grown {α : Type} {d : Kd α} {e e' base base' n sz : Nat} {W W1 : World} {ok : Nat → Prop} {v v' : Value} {xs : List α} {ys : List Value} (h : d.R e W base ok v xs) (ho : W.ownsRow base' e' sz v' n ys) (ht : ∀ q,q ∈ e :: d.E → q ≠ e') (hg : W.grownBy W1 v'.ownBlock) : d.R e W1 base ok v xs:=by
 cases hb : v'.ownBlock with
 | none=>rw [hb] at hg;exact Kd.R_grown h hg (fun _ _=>by simp)
 | some g =>
  rw [hb] at hg
  obtain ⟨cells,hc⟩:=own_typed ho g hb;exact Kd.R_mono (Kd.R_grown (Kd.R_types h hc ht) hg (fun k hk he=>hk.2 (by injection he))) (fun _ hk=>hk.1)
theorem pp_drew_alloc (W : World) (o : Obj) : (W.alloc o).drew = W.drew.alloc o:=rfl
theorem pp_str (nm : List UInt8) : strOfNums (pp_ints nm) = ⟨nm.toArray⟩:=by
 unfold strOfNums pp_ints
 congr 2
 rw [List.map_map]
 conv=>rhs;rw [← List.map_id nm]
 apply List.map_congr_left
 intro b _
 simp
theorem pp_size (nm : List UInt8) : (⟨nm.toArray⟩ : ByteArray).size = nm.length:=by simp [ByteArray.size]
theorem pp_conv {P : Program} {w : World} {base e src dst el : Nat} {ok : Nat → Prop} {v u : Value} {nm : List UInt8} (hs : P.underlying src = some (.slice el)) (he : P.underlying el = some (.int .u8)) (hd : P.underlying dst = some .string)
  (h : Kd.R (Kd.int .u8) e w base ok v (pp_ints nm)) (hu : u = v) : (convert src dst u).run P w = .ok (.string (strOfNums (pp_ints nm))) w:=by
 subst hu;exact own_string hs he hd (Kd.own_of_R h)
theorem pp_cat (s : ByteArray) (nm : List UInt8) (a b : Nat) : strOfNums (pp_ints nm) ++ s.extract a b = ⟨(nm ++ pp_seg s a b).toArray⟩:=by
 rw [pp_str]
 apply ByteArray.ext
 apply Array.ext'
 unfold pp_seg
 simp
def PPRel (s : ByteArray) (w : World) (v4 v5 v6 v7 : Value) (wr : World) : Prop :=
 ∃ (pos : Nat) (tu : Bool) (out : List ByteArray) (nm : List UInt8) (fr : Nat),v6 = .bool tu ∧ v7 = .int .i64 fr ∧ PRel s pos tu out nm fr ∧ out.length ≤ pos ∧ nm.length ≤ pos ∧ (tu = false → nm.length ≤ fr) ∧ pos ≤ s.size + 3 ∧
  Kd.R Kd.string 9 wr w.heap.size (fun _=>True) v4 out ∧ Kd.R (Kd.int .u8) 5 wr w.heap.size (fun _=>True) v5 (pp_ints nm) ∧ wr.heap[w.heap.size]? = some (.stringIter s pos) ∧ Below w.heap.size w wr
theorem pp_decode (s : ByteArray) (pos : Nat) (h : pos < s.size) : ∃ rr wd,Utf8.decode s pos = (rr,wd) ∧ 1 ≤ wd ∧ wd ≤ 4 ∧ rr ≤ 2147483647 ∧ ((s[pos].toNat < 128 ∧ rr = s[pos].toNat ∧ wd = 1) ∨ (128 ≤ s[pos].toNat ∧ 128 ≤ rr ∧ wd = (Utf8.decode s pos).2)):=by
 refine ⟨(Utf8.decode s pos).1,(Utf8.decode s pos).2,rfl,?_,?_,decode_le s pos,?_⟩
 ·by_cases ha : s[pos].toNat < 128
  ·rw [decode_ascii s pos h ha];exact Nat.le_refl _
  exact (decode_high s pos h (by omega)).2
 ·unfold Utf8.decode
  repeat' split
  all_goals simp
  all_goals (repeat' split)
  all_goals simp
 by_cases ha : s[pos].toNat < 128
 ·exact .inl ⟨ha,by rw [decode_ascii s pos h ha],by rw [decode_ascii s pos h ha]⟩
 exact .inr ⟨by omega,(decode_high s pos h (by omega)).1,rfl⟩
theorem pp_u8 {a b : UInt8} (h : a.toNat = b.toNat) : a = b:=UInt8.toNat_inj.mp h
theorem pp_ints_snoc (nm : List UInt8) (c : UInt8) : pp_ints (nm ++ [c]) = pp_ints nm ++ [(c.toNat : Int)]:=by simp [pp_ints]
theorem pp_ints_len (nm : List UInt8) : (pp_ints nm).length = nm.length:=by simp [pp_ints]
theorem pp_seg_bytes (s : ByteArray) (a b : Nat) : bytesOf (s.extract a b) = pp_ints (pp_seg s a b):=by
 unfold bytesOf pp_ints pp_seg
 rw [← ByteArray.toList_eq,Lib.extract_toList]
theorem pp_seg_le (s : ByteArray) (a b : Nat) : (pp_seg s a b).length ≤ b - a:=by unfold pp_seg;exact List.length_take_le _ _
set_option maxHeartbeats 4000000 in
set_option maxRecDepth 100000 in
theorem pointer_Parse.calls (a0 : ByteArray) (r1 : List ByteArray) (r2 : Int) (w : World) (h : pointer_Parse.f a0 = some (r1,r2)) :
  Calls Tryd.prog 22 #[.string a0] w fun e w'=>∃ v0_ : Value,e = .returned (.tuple #[v0_,.int .i64 r2]) ∧ Kd.R Kd.string 9 w' w.heap.size (fun _=>True) v0_ r1 ∧ Below w.heap.size w w':=by
 unfold pointer_Parse.f at h
 by_cases hsz : a0.size ≤ 1099511627776
 ·rw [if_pos hsz] at h
  injection h with h
  have HV:=Aside0.mk h;clear h
  have hb0 : (a0.toList.isEmpty = true ∧ a0.size = 0) ∨ (a0.toList.isEmpty = false ∧ ∃ h0 : 0 < a0.size,True):=by
   rw [ByteArray.toList_eq]
   cases hl : a0.data.toList with
   | nil=>left;exact ⟨rfl,by rw [← data_length,hl];rfl⟩
   | cons c r=>right;exact ⟨rfl,by rw [← data_length,hl];simp,trivial⟩
  by_cases hbad : ∃ h0 : 0 < a0.size,¬ a0[0] = 47
  ·obtain ⟨h0,hne⟩:=hbad
   have hs2 : a0.toList.isEmpty = false:=by
    rcases hb0 with ⟨_,h⟩|⟨h,_⟩
    ·omega
    exact h
   have hv : parseV a0 = ([],200):=by
    have e : a0.data.toList = a0[0] :: a0.data.toList.drop 1:=by have:=pp_get a0 0 h0;rwa [List.drop_zero] at this
    unfold parseV
    rw [e,namesOf,if_neg hne]
   have HW:=Aside0.mk (hv.symm.trans HV.out)
   have hne2 : ((a0[0].toNat : Int) != 47) = true:=by
    rw [bne_iff_ne];exact fun h=>hne (pp_u8 (by show a0[0].toNat = 47;omega))
   clear hv hne HV hb0;go_enter Tryd.func22,Tryd.ntmps22;go_wp2
   go_ret2
   obtain ⟨rfl,rfl⟩:=Prod.mk.inj HW.out;exact ⟨_,rfl,Kd.R_nil _ _ _ _ _,Below.refl _ _⟩
  have hfirst : ∀ h0 : 0 < a0.size,a0[0] = 47:=fun h0=>Classical.byContradiction fun h=>hbad ⟨h0,h⟩
  clear hbad
  have hx0 : a0.toList.isEmpty = true ∨ (a0.toList.isEmpty = false ∧ ∃ h0 : 0 < a0.size,((a0[0].toNat : Int) != 47) = false):=by
   rcases hb0 with ⟨h,_⟩|⟨h,h0,_⟩
   ·exact .inl h
   exact .inr ⟨h,h0,by rw [hfirst h0];rfl⟩
  have HF:=Aside0.mk hfirst;have HB0:=Aside0.mk hb0;clear hfirst hb0;go_enter Tryd.func22,Tryd.ntmps22
  rcases hx0 with hs2|⟨hs2,h0,hne2⟩
  all_goals
   go_wp2_with fail
   go_loopw [4,5,6,7] (PPRel a0 w) (fun _ _ _ _ wr=>a0.size - wr.iterPos w.heap.size)
   case atStart =>
    exact ⟨0,false,[],[],0,rfl,rfl,.inl ⟨rfl,rfl,rfl,rfl,rfl⟩,by simp,by simp,by simp,by omega,Kd.R_nil _ _ _ _ _,Kd.R_nil _ _ _ _ _,World.iter_heap w a0 0,(Below.refl _ _).alloc (Nat.le_refl _) _⟩
   case round =>
    obtain ⟨pos,tu,out,nm,fr,rfl,rfl,hP,ho1,hn1,hn2,hp3,hR4,hR5,hit,hB⟩:=hrel;have HP:=Aside0.mk hP;clear hP
    by_cases hp : pos < a0.size
    ·obtain ⟨rr,wd,hd,hw1,hw4,hrr,hcase⟩:=pp_decode a0 pos hp
     have hnx : ∀ ty,(Instr.next (.pointer (some ⟨w.heap.size,0,none⟩)) true ty).run Tryd.prog wr = _:=fun ty=>Lib.run_next_any_at wr w.heap.size a0 pos ty hit hp
     rw [hd] at hnx
     have HD:=Aside0.mk hd;clear hd;have hm0 : wr.iterPos w.heap.size = pos:=iterPos_of hit;have HM:=Aside0.mk hm0;have HIT:=Aside0.mk (Lib.iterAt_heap wr w.heap.size a0 pos (pos + wd) hit);have HB2:=Aside0.mk (Lib.below_iterAt hB (k:=w.heap.size) (Nat.le_refl _) a0 (pos + wd));have HR4:=Aside0.mk (pp_R_iter (q:=pos + wd) hR4 hit);have HR5:=Aside0.mk (pp_R_iter (q:=pos + wd) hR5 hit)
     generalize hW : wr.iterAt w.heap.size a0 (pos + wd) = W at *
     clear hW hit hB hR4 hR5 hm0
     cases tu with
     | true =>
      by_cases c1 : a0[pos] = 49
      ·have hN:=pp_one HP.out hp c1
       obtain ⟨rfl,rfl⟩ : rr = 49 ∧ wd = 1:=by
        rcases hcase with ⟨_,h1,h2⟩|⟨h1,_⟩
        ·rw [c1] at h1;exact ⟨h1,h2⟩
        rw [c1] at h1;exact absurd h1 (by decide)
       have HN:=Aside0.mk hN;clear hcase c1 hN HP
       go_wp2_with (first|(at_builtin;refine Kd.R_append (Kd.int .u8) (w0:=w) w.heap.size rfl (.tmp 27) (.tmp 28) 53 5 (.int .u8 0) 1 rfl Tryd.underlying53 info5 rfl (by decide) (by omega) _ (pp_ints nm) 47 [.int .u8 47] (fun _=>True) (fun _=>False) rfl rfl ?aP (fun _ hk=>hk.elim) ?aF ?aO ?aB ?aS ?aL ?_;(case aP=>exact rfl);(case aB=>exact HB2.out);(case aF=>exact (fun _ _=>trivial));(case aO=>exact HR5.out);(case aS=>exact HB2.out.size);(case aL=>rw [pp_ints_len];omega);intro v1 w1 ho hb hg hat;have X4:=Aside0.mk (pp_R_grown HR4.out HR5.out.2.choose_spec.1 (by decide) hg);have XI:=Aside0.mk (pp_it_grown HIT.out HR5.out.2.choose_spec.1 hg);have X5:=Aside0.mk ho;have XB:=Aside0.mk hb;clear ho hb hg hat))
       go_roundw
       case rel=>exact ⟨pos + 1,false,out,nm ++ [47],pos + 1,rfl,by go_num,HN.out,by omega,by simp;omega,fun _=>by simp;omega,by omega,X4.out,by rw [pp_ints_snoc];exact X5.out,XI.out,XB.out⟩
       case measure=>rw [HM.out,iterPos_of XI.out];omega
      by_cases c2 : a0[pos] = 48
      ·have hN:=pp_nought HP.out hp c2
       obtain ⟨rfl,rfl⟩ : rr = 48 ∧ wd = 1:=by
        rcases hcase with ⟨_,h1,h2⟩|⟨h1,_⟩
        ·rw [c2] at h1;exact ⟨h1,h2⟩
        rw [c2] at h1;exact absurd h1 (by decide)
       have HN:=Aside0.mk hN;clear hcase c1 c2 hN HP
       go_wp2_with (first|(at_builtin;refine Kd.R_append (Kd.int .u8) (w0:=w) w.heap.size rfl (.tmp 32) (.tmp 33) 53 5 (.int .u8 0) 1 rfl Tryd.underlying53 info5 rfl (by decide) (by omega) _ (pp_ints nm) 126 [.int .u8 126] (fun _=>True) (fun _=>False) rfl rfl ?aP (fun _ hk=>hk.elim) ?aF ?aO ?aB ?aS ?aL ?_;(case aP=>exact rfl);(case aB=>exact HB2.out);(case aF=>exact (fun _ _=>trivial));(case aO=>exact HR5.out);(case aS=>exact HB2.out.size);(case aL=>rw [pp_ints_len];omega);intro v1 w1 ho hb hg hat;have X4:=Aside0.mk (pp_R_grown HR4.out HR5.out.2.choose_spec.1 (by decide) hg);have XI:=Aside0.mk (pp_it_grown HIT.out HR5.out.2.choose_spec.1 hg);have X5:=Aside0.mk ho;have XB:=Aside0.mk hb;clear ho hb hg hat))
       go_roundw
       case rel=>exact ⟨pos + 1,false,out,nm ++ [126],pos + 1,rfl,by go_num,HN.out,by omega,by simp;omega,fun _=>by simp;omega,by omega,X4.out,by rw [pp_ints_snoc];exact X5.out,XI.out,XB.out⟩
       case measure=>rw [HM.out,iterPos_of XI.out];omega
      have HW:=Aside0.mk ((pp_bad HP.out hp c1 c2).symm.trans HV.out)
      have e1 : ((rr : Int) == 49) = false:=by
       rw [beq_eq_false_iff_ne];intro e;rcases hcase with ⟨_,h1,_⟩|⟨_,h1,_⟩
       ·exact c1 (pp_u8 (by show a0[pos].toNat = 49;omega))
       omega
      have e2 : ((rr : Int) == 48) = false:=by
       rw [beq_eq_false_iff_ne];intro e;rcases hcase with ⟨_,h1,_⟩|⟨_,h1,_⟩
       ·exact c2 (pp_u8 (by show a0[pos].toNat = 48;omega))
       omega
      clear hcase c1 c2 HP;go_wp2
      go_ret2
      obtain ⟨rfl,rfl⟩:=Prod.mk.inj HW.out;exact ⟨_,rfl,Kd.R_nil _ _ _ _ _,HB2.out⟩
     | false =>
      by_cases hz : pos = 0
      ·subst hz;have h0' : 0 < a0.size:=hp;have hc0:=HF.out h0'
       obtain ⟨rfl,rfl⟩ : rr = 47 ∧ wd = 1:=by
        rcases hcase with ⟨_,h1,h2⟩|⟨h1,_⟩
        ·rw [hc0] at h1;exact ⟨h1,h2⟩
        rw [hc0] at h1;exact absurd h1 (by decide)
       have HN:=Aside0.mk (pp_first h0' hc0);have ho : out = []:=List.eq_nil_of_length_eq_zero (by omega);subst ho;clear hcase hc0 HP;go_wp2
       go_roundw
       case rel=>exact ⟨1,false,[],[],1,rfl,by go_num,HN.out,by simp,by simp,by simp,by omega,HR4.out,Kd.R_nil _ _ _ _ _,HIT.out,HB2.out⟩
       case measure=>rw [HM.out,iterPos_of HIT.out];omega
      have hpos : 0 < pos:=by omega
      by_cases c1 : a0[pos] = 47
      ·obtain ⟨hN,hfr⟩:=pp_slash HP.out hp hpos c1
       obtain ⟨rfl,rfl⟩ : rr = 47 ∧ wd = 1:=by
        rcases hcase with ⟨_,h1,h2⟩|⟨h1,_⟩
        ·rw [c1] at h1;exact ⟨h1,h2⟩
        rw [c1] at h1;exact absurd h1 (by decide)
       have HN:=Aside0.mk hN;have HSB:=Aside0.mk (pp_seg_bytes a0 fr pos)
       have hpi : pos ≤ a0.size:=by omega
       have hes : (a0.extract fr pos).size ≤ pos:=by rw [ByteArray.size_extract];omega
       have hns : (strOfNums (pp_ints nm)).size ≤ pos:=by rw [pp_str,pp_size];exact hn1
       have hcl : ¬ 9223372036854775807 < (strOfNums (pp_ints nm)).size + (pos - fr):=by omega
       have hgp : decide ((0 : Int) < (pos : Int)) = true:=decide_eq_true (by omega)
       have hcv:=fun u (hu : u = u5)=>(pp_conv Tryd.underlying53 Tryd.underlying5 Tryd.underlying9 (Kd.R_drew HR5.out) hu : (convert 53 9 u).run Tryd.prog W.drew = .ok (.string (strOfNums (pp_ints nm))) W.drew)
       have hcv:=hcv _ rfl;clear hcase c1 hN HP hz
       go_wp2_with fail
       go_region_law (first|(rw [pp_drew_alloc];refine Kd.R_append_step Kd.string (w0:=w) w.heap.size (by rfl) (.tmp 42) (.tmp 50) 22 9 (.string ⟨#[]⟩) 16 rfl Tryd.underlying22 info9 rfl (by decide) (by omega) _ out (strOfNums (pp_ints nm) ++ a0.extract fr pos) [.string (strOfNums (pp_ints nm) ++ a0.extract fr pos)] (fun _=>True) (fun _=>False) rfl rfl ?aP (fun _ hk=>hk.elim) ?aF ?aO ?aB ?aS ?aL ?_;(case aP=>exact rfl);(case aB=>exact below_drew HB2.out);(case aF=>exact (fun _ _=>trivial));(case aO=>exact Kd.R_drew HR4.out);(case aS=>exact (below_drew HB2.out).size);(case aL=>omega);intro v1 w1 ho hb hg hat;have X5:=Aside0.mk (pp_R_grown (Kd.R_drew HR5.out) (Kd.R_drew HR4.out).2.choose_spec.1 (by decide) hg);have XI:=Aside0.mk (pp_it_grown (W:=W.drew) HIT.out (Kd.R_drew HR4.out).2.choose_spec.1 hg);have X4:=Aside0.mk ho;have XB:=Aside0.mk hb;clear ho hb hg hat))
       go_wp2
       go_roundw
       case rel =>
        refine ⟨pos + 1,false,out ++ [strOfNums (pp_ints nm) ++ a0.extract fr pos],[],pos + 1,rfl,by go_num,?_,by rw [List.length_append];simp;omega,by simp,by simp,by omega,X4.out,Kd.R_nil _ _ _ _ _,XI.out,XB.out⟩;have:=HN.out
        rwa [← pp_cat] at this
       case measure=>rw [HM.out,iterPos_of XI.out];omega
      by_cases c2 : a0[pos] = 126
      ·obtain ⟨hN,hfr⟩:=pp_tilde HP.out hp hpos c2
       obtain ⟨rfl,rfl⟩ : rr = 126 ∧ wd = 1:=by
        rcases hcase with ⟨_,h1,h2⟩|⟨h1,_⟩
        ·rw [c2] at h1;exact ⟨h1,h2⟩
        rw [c2] at h1;exact absurd h1 (by decide)
       have HN:=Aside0.mk hN;have HSL:=Aside0.mk (pp_seg_le a0 fr pos);have HSB:=Aside0.mk (pp_seg_bytes a0 fr pos)
       have hes : (a0.extract fr pos).size ≤ pos:=by rw [ByteArray.size_extract];omega
       have hpi : pos ≤ a0.size:=by omega
       clear hcase c1 c2 hN HP hz
       go_wp2_with (first|(at_builtin;refine print_append_str (w0:=w) w.heap.size rfl (.tmp 56) _ 53 9 5 rfl Tryd.underlying53 Tryd.underlying9 info5 _ (pp_ints nm) (a0.extract fr pos) rfl rfl ?aO ?aB ?aS ?aL ?_;(case aB=>exact HB2.out);(case aO=>exact (Kd.own_of_R HR5.out));(case aS=>exact HB2.out.size);(case aL=>rw [pp_ints_len];omega);intro v1 w1 ho0 hb hg;have X4:=Aside0.mk (pp_R_grown HR4.out HR5.out.2.choose_spec.1 (by decide) hg);have XI:=Aside0.mk (pp_it_grown HIT.out HR5.out.2.choose_spec.1 hg);have X5:=Aside0.mk (Kd.R_of_own (h1:=fun _=>rfl) (ok:=fun _=>True) ho0 (fun _ _=>trivial));have XB:=Aside0.mk hb;clear ho0 hb hg))
       go_roundw
       case rel =>
        refine ⟨pos + 1,true,out,nm ++ pp_seg a0 fr pos,fr,rfl,rfl,HN.out,by omega,by have:=HSL.out;have:=hn2 rfl;rw [List.length_append];omega,fun h=>absurd h (by decide),by omega,X4.out,?_,XI.out,XB.out⟩
        have e : pp_ints (nm ++ pp_seg a0 fr pos) = pp_ints nm ++ bytesOf (a0.extract fr pos):=by rw [HSB.out];simp [pp_ints]
        rw [e];exact X5.out
       case measure=>rw [HM.out,iterPos_of XI.out];omega
      have hN : PRel a0 (pos + wd) false out nm fr:=by
       rcases hcase with ⟨_,_,h2⟩|⟨ha,_,h2⟩
       ·subst h2;exact pp_else HP.out hp hpos c1 c2
       rw [h2];exact pp_wide HP.out hp hpos ha
      have e1 : ((rr : Int) == 47) = false:=by
       rw [beq_eq_false_iff_ne];intro e;rcases hcase with ⟨_,h1,_⟩|⟨_,h1,_⟩
       ·exact c1 (pp_u8 (by show a0[pos].toNat = 47;omega))
       omega
      have e2 : ((rr : Int) == 126) = false:=by
       rw [beq_eq_false_iff_ne];intro e;rcases hcase with ⟨_,h1,_⟩|⟨_,h1,_⟩
       ·exact c2 (pp_u8 (by show a0[pos].toNat = 126;omega))
       omega
      have HN:=Aside0.mk hN;clear hcase c1 c2 hN HP hz;go_wp2
      go_roundw
      case rel=>exact ⟨pos + wd,false,out,nm,fr,rfl,rfl,HN.out,by omega,by omega,hn2,by omega,HR4.out,HR5.out,HIT.out,HB2.out⟩
      case measure=>rw [HM.out,iterPos_of HIT.out];omega
    have hnx : ∀ ty,(Instr.next (.pointer (some ⟨w.heap.size,0,none⟩)) true ty).run Tryd.prog wr = _:=fun ty=>Lib.run_next_end_at wr w.heap.size a0 pos ty hit hp
    cases tu with
    | true =>
     have HW:=Aside0.mk ((pp_end_turned HP.out hp).symm.trans HV.out);go_wp2
     go_ret2
     obtain ⟨rfl,rfl⟩:=Prod.mk.inj HW.out;exact ⟨_,rfl,Kd.R_nil _ _ _ _ _,hB⟩
    | false =>
     by_cases hq : 0 < a0.size
     ·have hs3 : a0.toList.isEmpty = false:=by
       rcases HB0.out with ⟨_,h⟩|⟨h,_⟩
       ·omega
       exact h
      try (exfalso;rw [hs3] at hs2;exact absurd hs2 (by decide))
      all_goals
       clear hs2;have hs2:=hs3;clear hs3;have HW:=Aside0.mk ((pp_end HP.out hp hq).symm.trans HV.out)
       have hes : (a0.extract fr a0.size).size ≤ a0.size:=by rw [ByteArray.size_extract];omega
       have hns : (strOfNums (pp_ints nm)).size ≤ pos:=by rw [pp_str,pp_size];exact hn1
       have hfr : fr ≤ a0.size:=by rcases HP.out with ⟨_,_,_,_,h⟩|⟨_,_,h,_⟩ <;> omega
       have hcl : ¬ 9223372036854775807 < (strOfNums (pp_ints nm)).size + (a0.size - fr):=by omega
       have hcv:=fun u (hu : u = u5)=>(pp_conv Tryd.underlying53 Tryd.underlying5 Tryd.underlying9 (Kd.R_drew hR5) hu : (convert 53 9 u).run Tryd.prog wr.drew = .ok (.string (strOfNums (pp_ints nm))) wr.drew)
       have hcv:=hcv _ rfl
       go_wp2_with fail
       go_region_law (first|(rw [pp_drew_alloc];refine Kd.R_append_step Kd.string (w0:=w) w.heap.size (by rfl) (.tmp 67) (.tmp 74) 22 9 (.string ⟨#[]⟩) 16 rfl Tryd.underlying22 info9 rfl (by decide) (by omega) _ out (strOfNums (pp_ints nm) ++ a0.extract fr a0.size) [.string (strOfNums (pp_ints nm) ++ a0.extract fr a0.size)] (fun _=>True) (fun _=>False) rfl rfl ?aP (fun _ hk=>hk.elim) ?aF ?aO ?aB ?aS ?aL ?_;(case aP=>exact rfl);(case aB=>exact below_drew hB);(case aF=>exact (fun _ _=>trivial));(case aO=>exact Kd.R_drew hR4);(case aS=>exact (below_drew hB).size);(case aL=>omega);intro v1 w1 ho hb hg hat;have X4:=Aside0.mk ho;have XB:=Aside0.mk hb;clear ho hb hg hat))
       go_wp2
       go_ret2
       have e:=HW.out
       have e2 : a0.data.toList.drop fr = pp_seg a0 fr a0.size:=by unfold pp_seg;exact (List.take_of_length_le (by rw [List.length_drop,data_length];omega)).symm
       rw [e2,← pp_cat] at e
       obtain ⟨rfl,rfl⟩:=Prod.mk.inj e;exact ⟨_,rfl,X4.out,XB.out⟩
     have hs3 : a0.toList.isEmpty = true:=by
      rcases HB0.out with ⟨h,_⟩|⟨_,h,_⟩
      ·exact h
      omega
     try (exfalso;rw [hs3] at hs2;exact absurd hs2 (by decide))
     all_goals
      clear hs2;have hs2:=hs3;clear hs3
      have hv : parseV a0 = ([],0):=by
       have e : a0.data.toList = []:=List.eq_nil_of_length_eq_zero (by rw [data_length];omega)
       unfold parseV
       rw [e];rfl
      have ho : out = []:=by
       rcases HP.out with ⟨_,_,h,_⟩|⟨h1,h2,h3,done,h4,h5⟩
       ·exact h
       exfalso
       have e : a0.data.toList = []:=List.eq_nil_of_length_eq_zero (by rw [data_length];omega)
       rw [e,List.drop_nil] at h5
       simp [namesGo,namesOf] at h5
      subst ho;have HW:=Aside0.mk (hv.symm.trans HV.out);clear hv;go_wp2
      go_ret2
      obtain ⟨rfl,rfl⟩:=Prod.mk.inj HW.out;exact ⟨_,rfl,hR4,hB⟩
 rw [if_neg hsz] at h
 exact absurd h (by simp)
end Go.Proofs.YtfaegleohhemkaaDoor.PPointerLikes
