/- quarry: pointer.Within is so of a pointer and itself, goes through thirds, and is so of a pointer with another one behind it and the first: for every three pointers of a bulk of at most 1048576 together. -/
import Derived.Test.YtppenppagkfigaaDoorZDefPointerChains
namespace Go.Proofs.YtppenppagkfigaaDoor.QPtr0PointerChains
open Go.RowKit Go.Proofs.YtppenppagkfigaaDoor.PPointerChains Go.Proofs.YtppenppagkfigaaDoorW.PrintWords Go.Proofs.YtppenppagkfigaaDoorW.PrintLast
set_option linter.unusedVariables false
set_option linter.unusedSimpArgs false
theorem w64s (i : Nat) (h : i ≤ 140737488351232) : wrap64 ((i : Int) + 1) = ((i + 1 : Nat) : Int):=by unfold wrap64;omega
theorem go_len : ∀ (l : List UInt8) (t : Bool) (done : List (List UInt8)) (cur : List UInt8) (r : List (List UInt8)),namesGo l t done cur = some r → r.length ≤ done.length + 1 + l.length
 | [],true,_,_,_,h=>by simp [namesGo] at h
 | [],false,done,cur,r,h=>by simp [namesGo] at h;subst h;simp
 | c :: l,true,done,cur,r,h=>by
  rw [namesGo] at h
  split at h
  ·have:=go_len l _ _ _ _ h;simp;omega
  ·split at h
   ·have:=go_len l _ _ _ _ h;simp;omega
   ·simp at h
 | c :: l,false,done,cur,r,h=>by
  rw [namesGo] at h
  split at h
  ·have:=go_len l _ _ _ _ h;simp at *;omega
  ·split at h
   ·have:=go_len l _ _ _ _ h;simp;omega
   ·have:=go_len l _ _ _ _ h;simp;omega
theorem parse_len (s : ByteArray) : (parseV s).1.length ≤ s.size + 1:=by
 unfold parseV
 have hd:=data_length s
 cases h : s.data.toList with
 | nil=>simp [namesOf,bas]
 | cons c r =>
  rw [h,List.length_cons] at hd
  rw [namesOf]
  split
  ·rename_i l hl
   split at hl
   ·have:=go_len _ _ _ _ _ hl
    simp [bas] at *
    omega
   ·simp at hl
  ·simp
end Go.Proofs.YtppenppagkfigaaDoor.QPtr0PointerChains
namespace Go.Proofs.YtppenppagkfigaaDoor.QWithPointerChains
open Go.RowKit Go.Proofs.YtppenppagkfigaaDoor.PPointerChains Go.Proofs.YtppenppagkfigaaDoorW.PrintWords Go.Proofs.YtppenppagkfigaaDoorW.PrintLast Go.Proofs.YtppenppagkfigaaDoor.QPtr0PointerChains
set_option linter.unusedVariables false
set_option linter.unusedSimpArgs false
def pw : List ByteArray → List ByteArray → Bool
 | _,[]=>true
 | [],_ :: _=>false
 | y :: a,x :: b=>if y.toList = x.toList then pw a b else false
theorem rd_at (l : List ByteArray) (i : Nat) (h : i < l.length) : rdOf ByteArray.empty l (i : Int) = l[i]:=by
 unfold rdOf
 simp [h]
theorem loop_p (a b : List ByteArray) (hb : b.length ≤ 140737488) : ∀ (d i : Nat),i + d = b.length → Ev (fun k=>pointer_Within.l0 k a b (b.length : Int) (i : Int)) (pw (a.drop i) (b.drop i),0)
 | 0,i,hd=>by
  rw [List.drop_of_length_le (l:=b) (by omega)]
  refine Ev.step (f:=fun _=>some (true,0)) (fun k=>?_) ?_
  ·simp only [pointer_Within.l0]
   rw [if_neg (by omega)]
  ·rw [pw];exact Ev.now _
 | d + 1,i,hd=>by
  have hi : i < b.length:=by omega
  rw [List.drop_eq_getElem_cons hi]
  by_cases ha : i < a.length
  ·rw [List.drop_eq_getElem_cons ha,pw]
   by_cases he : a[i].toList = b[i].toList
   ·rw [if_pos he]
    refine Ev.step (fun k=>?_) (loop_p a b hb d (i + 1) (by omega))
    simp only [pointer_Within.l0]
    rw [if_pos (by omega),if_pos (by omega),if_pos (by omega),if_neg (by omega),if_pos (by omega),rd_at a i ha,rd_at b i hi,if_pos he,w64s i (by omega)]
   ·rw [if_neg he]
    refine Ev.step (f:=fun _=>some (false,0)) (fun k=>?_) (Ev.now _)
    simp only [pointer_Within.l0]
    rw [if_pos (by omega),if_pos (by omega),if_pos (by omega),if_neg (by omega),if_pos (by omega),rd_at a i ha,rd_at b i hi,if_neg he]
  ·rw [List.drop_of_length_le (l:=a) (by omega),pw]
   refine Ev.step (f:=fun _=>some (false,0)) (fun k=>?_) (Ev.now _)
   simp only [pointer_Within.l0]
   rw [if_pos (by omega),if_pos (by omega),if_pos (by omega),if_pos (by omega)]
def withinV (s t : ByteArray) : Bool × Int:=if (parseV s).2 = 0 ∧ (parseV t).2 = 0 then (pw (parseV s).1 (parseV t).1,0) else (false,200)
theorem within_p (s t : ByteArray) (hs : s.size ≤ 14073748) (ht : t.size ≤ 14073748) : Ev (fun k=>pointer_Within.f k s t) (withinV s t):=by
 have hl:=parse_len t
 have ps : pointer_Parse.f s = some (parseV s):=by unfold pointer_Parse.f;rw [if_pos (by omega)]
 have pt : pointer_Parse.f t = some (parseV t):=by unfold pointer_Parse.f;rw [if_pos (by omega)]
 unfold withinV
 by_cases h1 : (parseV s).2 = 0
 ·by_cases h2 : (parseV t).2 = 0
  ·rw [if_pos ⟨h1,h2⟩]
   refine Ev.congr (f:=fun k=>pointer_Within.j0 k (parseV s).1 (parseV t).1 false) (fun k=>?_) (Ev.step (fun k=>?_) (loop_p (parseV s).1 (parseV t).1 (by omega) (parseV t).1.length 0 (by omega)))
   ·unfold pointer_Within.f
    rw [ps,pt,Option.bind_some,Option.bind_some,if_pos h1,h2]
    rfl
   ·rw [pointer_Within.j0]
    rw [if_neg (by decide)]
    rfl
  ·rw [if_neg (fun h=>h2 h.2)]
   refine Ev.congr (f:=fun k=>pointer_Within.j0 k (parseV s).1 (parseV t).1 true) (fun k=>?_) (Ev.step (f:=fun _=>some (false,200)) (fun k=>?_) (Ev.now _))
   ·unfold pointer_Within.f
    rw [ps,pt,Option.bind_some,Option.bind_some,if_pos h1,show ((parseV t).2 != 0) = true from bne_iff_ne.mpr h2]
   ·rw [pointer_Within.j0]
    rw [if_pos rfl]
 ·rw [if_neg (fun h=>h1 h.1)]
  refine Ev.congr (f:=fun k=>pointer_Within.j0 k (parseV s).1 (parseV t).1 true) (fun k=>?_) (Ev.step (f:=fun _=>some (false,200)) (fun k=>?_) (Ev.now _))
  ·unfold pointer_Within.f
   rw [ps,pt,Option.bind_some,Option.bind_some,if_neg h1]
  ·rw [pointer_Within.j0]
   rw [if_pos rfl]
theorem pw_refl : ∀ a,pw a a = true
 | []=>by rw [pw]
 | y :: a=>by rw [pw,if_pos rfl];exact pw_refl a
theorem pw_trans : ∀ a b c,pw a b = true → pw b c = true → pw a c = true
 | _,_,[],_,_=>by rw [pw]
 | _,[],_ :: _,_,h=>by simp [pw] at h
 | [],_ :: _,_ :: _,h,_=>by simp [pw] at h
 | y :: a,x :: b,z :: c,h1,h2=>by
  rw [pw] at h1 h2
  split at h1
  ·rename_i e1
   split at h2
   ·rename_i e2
    rw [pw,if_pos (e1.trans e2)]
    exact pw_trans a b c h1 h2
   ·cases h2
  ·cases h1
theorem pw_app : ∀ a b,pw (a ++ b) a = true
 | [],b=>by rw [pw]
 | y :: a,b=>by rw [List.cons_append,pw,if_pos rfl];exact pw_app a b
theorem go_done : ∀ (l : List UInt8) (t : Bool) (d0 d : List (List UInt8)) (c : List UInt8),namesGo l t (d0 ++ d) c = (namesGo l t d c).map (d0 ++ ·)
 | [],true,_,_,_=>rfl
 | [],false,d0,d,c=>by simp [namesGo]
 | x :: r,true,d0,d,c=>by
  rw [namesGo,namesGo]
  split
  ·exact go_done r _ _ _ _
  ·split
   ·exact go_done r _ _ _ _
   ·rfl
 | x :: r,false,d0,d,c=>by
  rw [namesGo,namesGo]
  split
  ·rw [List.append_assoc];exact go_done r _ _ _ _
  ·split
   ·exact go_done r _ _ _ _
   ·exact go_done r _ _ _ _
theorem go_app (m : List UInt8) : ∀ (l : List UInt8) (t : Bool) (d : List (List UInt8)) (c : List UInt8) (ns : List (List UInt8)),namesGo l t d c = some ns → namesGo (l ++ 47 :: m) t d c = (namesGo m false [] []).map (ns ++ ·)
 | [],true,_,_,_,h=>by cases h
 | [],false,d,c,ns,h=>by
  rw [namesGo] at h
  cases h
  rw [List.nil_append,namesGo,if_pos rfl]
  have:=go_done m false (d ++ [c]) [] []
  rw [List.append_nil] at this
  exact this
 | x :: r,true,d,c,ns,h=>by
  rw [List.cons_append,namesGo]
  rw [namesGo] at h
  split at h
  ·rename_i e;rw [if_pos e];exact go_app m r _ _ _ _ h
  ·rename_i e
   split at h
   ·rename_i e2;rw [if_neg e,if_pos e2];exact go_app m r _ _ _ _ h
   ·cases h
 | x :: r,false,d,c,ns,h=>by
  rw [List.cons_append,namesGo]
  rw [namesGo] at h
  split at h
  ·rename_i e;rw [if_pos e];exact go_app m r _ _ _ _ h
  ·rename_i e
   split at h
   ·rename_i e2;rw [if_neg e,if_pos e2];exact go_app m r _ _ _ _ h
   ·rename_i e2;rw [if_neg e,if_neg e2];exact go_app m r _ _ _ _ h
theorem names_app (l m : List UInt8) (a b : List (List UInt8)) (h1 : namesOf l = some a) (h2 : namesOf m = some b) : namesOf (l ++ m) = some (a ++ b):=by
 cases l with
 | nil=>rw [namesOf] at h1;cases h1;simpa using h2
 | cons x r =>
  cases m with
  | nil=>rw [namesOf] at h2;cases h2;simpa using h1
  | cons y q =>
   rw [namesOf] at h1 h2
   split at h1
   ·rename_i e1
    split at h2
    ·rename_i e2
     subst e2
     rw [List.cons_append,namesOf,if_pos e1,go_app q r false [] [] a h1,h2]
     rfl
    ·cases h2
   ·cases h1
theorem parse_code (s : ByteArray) : (parseV s).2 = 0 ∨ (parseV s).2 = 200:=by
 unfold parseV
 split
 ·exact .inl rfl
 ·exact .inr rfl
theorem parse_names (s : ByteArray) (h : (parseV s).2 = 0) : ∃ l,namesOf s.data.toList = some l ∧ parseV s = (bas l,0):=by
 unfold parseV at h ⊢
 cases e : namesOf s.data.toList with
 | none=>rw [e] at h;cases h
 | some l=>exact ⟨l,rfl,rfl⟩
theorem parse_app (s r : ByteArray) (hs : (parseV s).2 = 0) (hr : (parseV r).2 = 0) : parseV (s ++ r) = ((parseV s).1 ++ (parseV r).1,0):=by
 obtain ⟨a,h1,h2⟩:=parse_names s hs
 obtain ⟨b,h3,h4⟩:=parse_names r hr
 have h:=names_app _ _ a b h1 h3
 have e : (s ++ r).data.toList = s.data.toList ++ r.data.toList:=by simp [ByteArray.data_append]
 have hp : parseV (s ++ r) = (bas (a ++ b),0):=by unfold parseV;rw [e,h]
 rw [hp,h2,h4]
 unfold bas
 rw [List.map_append]
end Go.Proofs.YtppenppagkfigaaDoor.QWithPointerChains
namespace Go.Proofs.YtppenppagkfigaaDoor.Pure
open Go.RowKit Go.Proofs.YtppenppagkfigaaDoor.PPointerChains Go.Proofs.YtppenppagkfigaaDoorW.PrintWords Go.Proofs.YtppenppagkfigaaDoorW.PrintLast Go.Proofs.YtppenppagkfigaaDoor.QPtr0PointerChains Go.Proofs.YtppenppagkfigaaDoor.QWithPointerChains
set_option linter.unusedVariables false
set_option linter.unusedSimpArgs false
theorem awake_ev : Ev (fun k=>quarrylaw20_awake.f k) true:=Ev.of (fun k=>quarrylaw20_awake.mono k) (k:=40) (by decide +kernel)
theorem PointerChains : quarrylaw20_PointerChains.PureU:=by
 intro r s t _ _ _ hb
 have hr : r.size ≤ 1048576:=by omega
 have hs : s.size ≤ 1048576:=by omega
 have ht : t.size ≤ 1048576:=by omega
 have pr : pointer_Parse.f r = some (parseV r):=by unfold pointer_Parse.f;rw [if_pos (by omega)]
 have ps : pointer_Parse.f s = some (parseV s):=by unfold pointer_Parse.f;rw [if_pos (by omega)]
 have hsz : (s ++ r).size = s.size + r.size:=by simp [ByteArray.size_append]
 have w1:=within_p s s (by omega) (by omega)
 have w2:=within_p r s (by omega) (by omega)
 have w3:=within_p s t (by omega) (by omega)
 have w4:=within_p r t (by omega) (by omega)
 have w5:=within_p (s ++ r) s (by omega) (by omega)
 have j1 : Ev (fun k=>quarrylaw20_PointerChains.j1 k r s false) true:=by
  refine Ev.step (f:=fun k=>(pointer_Within.f k (s ++ r) s).bind fun b=>(if (parseV r).2 = 0 then (if (parseV s).2 = 0 then (if b.1 = true then (some (b.2 == 0)) else (some false)) else (some true)) else (some true))) (fun k=>?_) (Ev.bind w5 ?_)
  ·rw [quarrylaw20_PointerChains.j1,if_neg (by decide),pr,ps,Option.bind_some,Option.bind_some,if_pos (by omega)]
  ·refine Ev.congr (f:=fun _=>some true) (fun k=>?_) (Ev.now _)
   by_cases h1 : (parseV r).2 = 0
   ·rw [if_pos h1]
    by_cases h2 : (parseV s).2 = 0
    ·have hp:=parse_app s r h2 h1
     rw [if_pos h2]
     have hw : withinV (s ++ r) s = (true,0):=by
      unfold withinV
      rw [hp,if_pos ⟨rfl,h2⟩,pw_app]
     rw [hw,if_pos rfl]
     rfl
    ·rw [if_neg h2]
   ·rw [if_neg h1]
 have j0 : Ev (fun k=>quarrylaw20_PointerChains.j0 k r s t false) true:=by
  refine Ev.step (fun k=>by rw [quarrylaw20_PointerChains.j0,if_neg (by decide)]) (Ev.bind w2 (Ev.bind w3 (Ev.bind w4 ?_)))
  refine Ev.congr (f:=fun k=>quarrylaw20_PointerChains.j1 k r s false) (fun k=>?_) j1
  by_cases h1 : (parseV r).2 = 0
  ·by_cases h2 : (parseV s).2 = 0
   ·have v1 : withinV r s = (pw (parseV r).1 (parseV s).1,0):=if_pos ⟨h1,h2⟩
    rw [v1,if_pos rfl]
    by_cases h3 : (parseV t).2 = 0
    ·have v2 : withinV s t = (pw (parseV s).1 (parseV t).1,0):=if_pos ⟨h2,h3⟩
     have v3 : withinV r t = (pw (parseV r).1 (parseV t).1,0):=if_pos ⟨h1,h3⟩
     rw [v2,v3,if_pos rfl,if_pos rfl]
     by_cases p1 : pw (parseV r).1 (parseV s).1 = true
     ·rw [if_pos p1]
      by_cases p2 : pw (parseV s).1 (parseV t).1 = true
      ·rw [if_pos p2,pw_trans _ _ _ p1 p2]
       rfl
      ·rw [if_neg p2]
     ·rw [if_neg p1]
    ·have v2 : withinV s t = (false,200):=if_neg (fun h=>h3 h.2)
     rw [v2,if_neg (by decide)]
   ·have v1 : withinV r s = (false,200):=if_neg (fun h=>h2 h.2)
    rw [v1,if_neg (by decide)]
  ·have v1 : withinV r s = (false,200):=if_neg (fun h=>h1 h.1)
   rw [v1,if_neg (by decide)]
 have hl : Ev (fun k=>quarrylaw20_PointerChains.f k r s t) true:=by
  refine Ev.bind awake_ev (Ev.congr (fun k=>if_pos rfl) (Ev.bind w1 ?_))
  refine Ev.congr (f:=fun k=>quarrylaw20_PointerChains.j0 k r s t false) (fun k=>?_) j0
  rw [ps,Option.bind_some]
  by_cases h2 : (parseV s).2 = 0
  ·have v1 : withinV s s = (true,0):=by unfold withinV;rw [if_pos ⟨h2,h2⟩,pw_refl]
   rw [v1,h2]
   rfl
  ·have h200:=(parse_code s).resolve_left h2
   have v1 : withinV s s = (false,200):=if_neg (fun h=>h2 h.1)
   rw [v1,h200]
   rfl
 exact Ev.rounds hl
end Go.Proofs.YtppenppagkfigaaDoor.Pure
