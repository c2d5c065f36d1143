/- quarry: what pointer.Print writes of names pointer.Parse reads as these names, and what Parse reads of a pointer Print writes as that pointer: for all names and every pointer of a bulk of at most 1048576 together. -/
import Derived.Test.YtppenppagkfigaaDoorZDefPointerBack
namespace Go.Proofs.YtppenppagkfigaaDoor.QPtr0PointerBack
open Go.RowKit Go.Proofs.YtppenppagkfigaaDoor.PPointerBack Go.Proofs.YtppenppagkfigaaDoorW.PrintWords Go.Proofs.YtppenppagkfigaaDoorW.PrintLast
set_option linter.unusedVariables false
set_option linter.unusedSimpArgs false
theorem w64s (i : Nat) (h : i ≤ 140737488351232) : wrap64 ((i : Int) + 1) = ((i + 1 : Nat) : Int):=by unfold wrap64;omega
end Go.Proofs.YtppenppagkfigaaDoor.QPtr0PointerBack
namespace Go.Proofs.YtppenppagkfigaaDoor.Pure
open Go.RowKit Go.Proofs.YtppenppagkfigaaDoor.PPointerBack Go.Proofs.YtppenppagkfigaaDoorW.PrintWords Go.Proofs.YtppenppagkfigaaDoorW.PrintLast Go.Proofs.YtppenppagkfigaaDoor.QPtr0PointerBack
set_option linter.unusedVariables false
set_option linter.unusedSimpArgs false
theorem awake_ev : Ev (fun k=>quarrylaw20_awake.f k) true:=Ev.of (fun k=>quarrylaw20_awake.mono k) (k:=40) (by decide +kernel)
def printL (l : List (List UInt8)) : List UInt8:=l.flatMap fun s=>47 :: nameV s
theorem print_bas (l : List ByteArray) : printV l = printL (l.map fun s=>s.data.toList):=by
 unfold printV printL
 rw [List.flatMap_map]
theorem printL_app (a b : List (List UInt8)) : printL (a ++ b) = printL a ++ printL b:=by unfold printL;rw [List.flatMap_append]
theorem printL_one (s : List UInt8) : printL [s] = 47 :: nameV s:=by simp [printL]
theorem nameV_app (a b : List UInt8) : nameV (a ++ b) = nameV a ++ nameV b:=by unfold nameV;rw [List.flatMap_append]
theorem nameV_one (c : UInt8) : nameV [c] = escV c:=by simp [nameV]
theorem go_name (m : List UInt8) (done : List (List UInt8)) : ∀ (s cur : List UInt8),namesGo (nameV s ++ m) false done cur = namesGo m false done (cur ++ s)
 | [],cur=>by simp [nameV]
 | c :: s,cur=>by
  have e : nameV (c :: s) = escV c ++ nameV s:=by unfold nameV;rw [List.flatMap_cons]
  have h:=go_name m done s (cur ++ [c])
  rw [e,List.append_assoc]
  have e2 : cur ++ c :: s = cur ++ [c] ++ s:=by simp
  rw [e2,← h]
  unfold escV
  by_cases h1 : c = 47
  ·subst h1
   rw [if_pos rfl,List.cons_append,List.cons_append,List.nil_append,namesGo,if_neg (by decide),if_pos rfl,namesGo,if_pos rfl]
  ·rw [if_neg h1]
   by_cases h2 : c = 126
   ·subst h2
    rw [if_pos rfl,List.cons_append,List.cons_append,List.nil_append,namesGo,if_neg (by decide),if_pos rfl,namesGo,if_neg (by decide),if_pos rfl]
   ·rw [if_neg h2,List.cons_append,List.nil_append,namesGo,if_neg h1,if_neg h2]
theorem go_print : ∀ (l : List (List UInt8)) (done : List (List UInt8)) (cur : List UInt8),namesGo (printL l) false done cur = some (done ++ [cur] ++ l)
 | [],done,cur=>by simp [printL,namesGo]
 | s :: l,done,cur=>by
  have e : printL (s :: l) = 47 :: (nameV s ++ printL l):=by unfold printL;rw [List.flatMap_cons];rfl
  rw [e,namesGo,if_pos rfl,go_name,List.nil_append,go_print l (done ++ [cur]) s]
  simp
theorem names_print (l : List (List UInt8)) : namesOf (printL l) = some l:=by
 cases l with
 | nil=>rfl
 | cons s l =>
  have e : printL (s :: l) = 47 :: (nameV s ++ printL l):=by unfold printL;rw [List.flatMap_cons];rfl
  rw [e,namesOf,if_pos rfl,go_name,List.nil_append,go_print l [] s]
  simp
theorem print_go : ∀ (l : List UInt8) (t : Bool) (done : List (List UInt8)) (cur : List UInt8) (ns : List (List UInt8)),namesGo l t done cur = some ns → printL ns = printL (done ++ [cur]) ++ (if t = true then [126] else []) ++ l
 | [],true,_,_,_,h=>by cases h
 | [],false,done,cur,ns,h=>by
  rw [namesGo] at h
  cases h
  simp
 | c :: r,true,done,cur,ns,h=>by
  rw [namesGo] at h
  split at h
  ·rename_i e
   rw [print_go r _ _ _ _ h,e,printL_app,printL_app,printL_one,printL_one,nameV_app,nameV_one]
   simp [escV]
  ·split at h
   ·rename_i e
    rw [print_go r _ _ _ _ h,e,printL_app,printL_app,printL_one,printL_one,nameV_app,nameV_one]
    simp [escV]
   ·cases h
 | c :: r,false,done,cur,ns,h=>by
  rw [namesGo] at h
  split at h
  ·rename_i e
   rw [print_go r _ _ _ _ h,e,printL_app]
   simp [printL,nameV]
  ·rename_i e1
   split at h
   ·rename_i e
    rw [print_go r _ _ _ _ h,e]
    simp
   ·rename_i e2
    rw [print_go r _ _ _ _ h,printL_app,printL_app,printL_one,printL_one,nameV_app,nameV_one]
    simp [escV,e1,e2]
theorem print_names (l : List UInt8) (ns : List (List UInt8)) (h : namesOf l = some ns) : printL ns = l:=by
 cases l with
 | nil=>rw [namesOf] at h;cases h;rfl
 | cons c r =>
  rw [namesOf] at h
  split at h
  ·rename_i e
   rw [print_go r _ _ _ _ h,e]
   simp [printL,nameV]
  ·cases h
theorem name_len (s : List UInt8) : (nameV s).length ≤ 2 * s.length:=by
 induction s with
 | nil=>simp [nameV]
 | cons c s ih =>
  have e : nameV (c :: s) = escV c ++ nameV s:=by unfold nameV;rw [List.flatMap_cons]
  have h : (escV c).length ≤ 2:=by unfold escV;split <;> (try split) <;> simp
  rw [e,List.length_append,List.length_cons]
  omega
theorem print_len : ∀ l : List ByteArray,(printV l).length ≤ 2 * (l.map fun x=>x.size + 1).sum
 | []=>by simp [printV]
 | s :: l=>by
  have e : printV (s :: l) = (47 :: nameV s.data.toList) ++ printV l:=by unfold printV;rw [List.flatMap_cons]
  have h:=name_len s.data.toList
  have h2:=print_len l
  have hd:=data_length s
  rw [e,List.length_append,List.length_cons,List.map_cons,List.sum_cons]
  omega
theorem sum_len : ∀ l : List ByteArray,l.length ≤ (l.map fun x=>x.size + 1).sum
 | []=>by simp
 | s :: l=>by
  have:=sum_len l
  rw [List.length_cons,List.map_cons,List.sum_cons]
  omega
theorem of_list (s : ByteArray) : (⟨s.data.toList.toArray⟩ : ByteArray) = s:=by
 apply ByteArray.ext
 simp
theorem bas_data (l : List ByteArray) : bas (l.map fun s=>s.data.toList) = l:=by
 unfold bas
 rw [List.map_map]
 have : ((fun x : List UInt8=>(⟨x.toArray⟩ : ByteArray)) ∘ fun s : ByteArray=>s.data.toList) = id:=by
  funext s
  exact of_list s
 rw [this,List.map_id]
theorem data_bas (l : List (List UInt8)) : (bas l).map (fun s=>s.data.toList) = l:=by
 unfold bas
 rw [List.map_map]
 have : ((fun s : ByteArray=>s.data.toList) ∘ fun x : List UInt8=>(⟨x.toArray⟩ : ByteArray)) = id:=by
  funext s
  simp
 rw [this,List.map_id]
theorem texts_loop (l : List ByteArray) (hl : l.length ≤ 140737488351232) : ∀ (d i : Nat),i + d = l.length → Ev (fun k=>quarryref00_SameTexts.l0 k l l (i : Int)) true
 | 0,i,h=>Ev.step (f:=fun _=>some true) (fun k=>by simp only [quarryref00_SameTexts.l0];rw [if_neg (by omega)]) (Ev.now _)
 | d + 1,i,h=>by
  refine Ev.step (fun k=>?_) (texts_loop l hl d (i + 1) (by omega))
  simp only [quarryref00_SameTexts.l0]
  rw [if_pos (by omega),if_pos (by omega),if_pos (by omega),if_pos trivial,w64s i (by omega)]
theorem texts_ev (l : List ByteArray) (hl : l.length ≤ 140737488351232) : Ev (fun k=>quarryref00_SameTexts.f k l l) true:=by
 refine Ev.congr (fun k=>?_) (texts_loop l hl l.length 0 (by omega))
 unfold quarryref00_SameTexts.f
 rw [if_pos rfl]
 rfl
theorem PointerBack : quarrylaw20_PointerBack.Pure:=by
 intro l s _ _ hb
 have hs : s.size ≤ 1048576:=by omega
 have hlen:=print_len l
 have hll:=sum_len l
 have pp : pointer_Print.f l = some ⟨(printV l).toArray⟩:=by unfold pointer_Print.f;rw [if_pos (by omega)]
 have hsz : (⟨(printV l).toArray⟩ : ByteArray).size = (printV l).length:=by simp [ByteArray.size]
 have pq : pointer_Parse.f (⟨(printV l).toArray⟩ : ByteArray) = some (l,0):=by
  unfold pointer_Parse.f
  rw [if_pos (by omega)]
  congr 1
  unfold parseV
  have e : (⟨(printV l).toArray⟩ : ByteArray).data.toList = printL (l.map fun s=>s.data.toList):=by rw [← print_bas]
  rw [e,names_print]
  simp only
  rw [bas_data]
 have ps : pointer_Parse.f s = some (parseV s):=by unfold pointer_Parse.f;rw [if_pos (by omega)]
 have j0 : Ev (fun k=>quarrylaw20_PointerBack.j0 k s false) true:=by
  refine Ev.step (f:=fun _=>some true) (fun k=>?_) (Ev.now _)
  rw [quarrylaw20_PointerBack.j0,if_neg (by decide),ps,Option.bind_some]
  unfold parseV
  cases e : namesOf s.data.toList with
  | none =>
   simp only
   rw [if_neg (by decide),if_pos (by rfl)]
   congr 1
   rw [ByteArray.toList_eq]
   cases h : s.data.toList with
   | nil=>rw [h] at e;cases e
   | cons c r=>rfl
  | some ns =>
   simp only
   have hp:=print_names _ _ e
   have e2 : printV (bas ns) = s.data.toList:=by rw [print_bas,data_bas,hp]
   have hd:=data_length s
   have e3 : pointer_Print.f (bas ns) = some ⟨(printV (bas ns)).toArray⟩:=by unfold pointer_Print.f;rw [if_pos (by rw [e2];omega)]
   rw [if_pos trivial,e3,Option.bind_some,e2,of_list]
   simp
 refine Ev.rounds (r:=true) ?_
 refine Ev.bind awake_ev (Ev.congr (fun k=>by rw [if_pos rfl,pp,Option.bind_some,pq,Option.bind_some,if_pos rfl]) (Ev.bind (texts_ev l (by omega)) ?_))
 exact j0
end Go.Proofs.YtppenppagkfigaaDoor.Pure
