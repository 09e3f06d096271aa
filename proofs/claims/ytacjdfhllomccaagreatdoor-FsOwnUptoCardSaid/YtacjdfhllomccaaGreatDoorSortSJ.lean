/- Rows of strings of the call's own, sorted and compacted by the library's functions. Its conditions: as each states. -/
import Derived.Test.YtacjdfhllomccaaGreatDoorRowJ
import Derived.Test.YtacjdfhllomccaaGreatDoorOpsJ
import Derived.Test.YtacjdfhllomccaaGreatDoorRecJ
import Derived.Test.YtacjdfhllomccaaGreatDoorBytesJ
import Derived.Test.YtacjdfhllomccaaGreatDoorLaySJ
namespace Go.Proofs.YtacjdfhllomccaaGreatDoor
open Go.Sort
def toLs (l : List ByteArray) : List (List UInt8) := l.map fun s => s.data.toList
def ofLs (d : List (List UInt8)) : List ByteArray := d.map ofL
def ssort (l : List ByteArray) : List ByteArray := ofLs ((toLs l).mergeSort fun x y => decide (x ≤ y))
def scomp (l : List ByteArray) : List ByteArray := ofLs (Lib.compact (toLs l))
def ssortO (l : List ByteArray) : Option (List ByteArray) := if l.length < 4611686018427387904 then some (ssort l) else none
theorem ssortO_some {l y : List ByteArray} (h : ssortO l = some y) : l.length < 4611686018427387904 ∧ y = ssort l := by
 unfold ssortO at h
 split at h
 · cases h; exact ⟨by assumption, rfl⟩
 · cases h
theorem toLs_length (l : List ByteArray) : (toLs l).length = l.length := List.length_map ..
theorem ofLs_length (d : List (List UInt8)) : (ofLs d).length = d.length := List.length_map ..
theorem ssort_length (l : List ByteArray) : (ssort l).length = l.length := by unfold ssort; rw [ofLs_length, List.length_mergeSort, toLs_length]
theorem ofLs_cells (d : List (List UInt8)) : d.map encStr = (ofLs d).map Value.string := by
 unfold ofLs; rw [List.map_map]; exact List.map_congr_left fun s _ => rfl
theorem str_cells {V : View} {xs : List Value} {l : List ByteArray} (h : RowRep V eStr xs l) : xs = l.map Value.string := by
 obtain ⟨h1, h2⟩ := h
 apply List.ext_getElem?
 intro k
 rw [List.getElem?_map]
 cases hk : l[k]? with
 | none =>
  rw [List.getElem?_eq_none_iff] at hk
  rw [List.getElem?_eq_none (by rw [h1]; show l.length * 1 ≤ k; omega)]; rfl
 | some x =>
  have h3 : (xs.drop (k * 1)).take 1 = [Value.string x] := h2 k x hk
  have h4 : ((xs.drop (k * 1)).take 1)[0]? = some (Value.string x) := by rw [h3]; rfl
  rw [List.getElem?_take, if_pos (by omega), List.getElem?_drop] at h4
  rw [show k * 1 + 0 = k by omega] at h4
  rw [h4]; rfl
theorem str_row {V : View} (d : List (List UInt8)) : RowRep V eStr (d.map encStr) (ofLs d) := by
 rw [ofLs_cells]
 generalize ofLs d = l
 refine ⟨by rw [List.length_map]; show l.length = l.length * 1; omega, fun k x hk => ?_⟩
 show ((l.map Value.string).drop (k * 1)).take 1 = [Value.string x]
 rw [show k * 1 = k by omega]
 have hl : k < l.length := (List.getElem?_eq_some_iff.1 hk).1
 rw [List.drop_eq_getElem_cons (by rw [List.length_map]; exact hl), List.take_succ_cons, List.take_zero, List.getElem_map]
 rw [(List.getElem?_eq_some_iff.1 hk).2]
section
variable {w : World} {V : View} {G : List HObj} {w1 : World} {A : Option Addr} {c : Nat} {l : List ByteArray} {t : TypeId}
theorem row_strs (hh : Hp w V (row t eStr A c l :: G) w1) (hl : l ≠ []) : ∃ g, A = some ⟨g, 0, none⟩ ∧ Holds encStr w1 g 0 (toLs l).toArray ∧ g < w1.heap.size ∧
 ∀ (d : List (List UInt8)) (n : Nat) (os : Array Obj), d.length = l.length → Hp w V (row t eStr A c (ofLs d) :: G) (Go.Sort.grow (putRow encStr (Go.Sort.ahead w1 n) g 0 d.toArray) os) := by
 obtain ⟨h1, h2, h3⟩ := hh.objs _ List.mem_cons_self
 have hlp : 0 < l.length := by cases l with | nil => exact absurd rfl hl | cons => simp
 rcases h3 with h3 | ⟨g, cur, fz, xs, h⟩
 · omega
 have hfz := h.plain rfl
 subst hfz
 have hxs := str_cells h.rep
 have hsz : cur.size = c := by rw [h.size]; show c * 1 = c; omega
 have hget : ∀ j (hj : j < l.length), cur[j]? = some (Value.string l[j]) := fun j hj => by
  have h4 : (cur.toList.take (l.length * eStr.size))[j]? = some (Value.string l[j]) := by
   rw [h.take, hxs, List.getElem?_map, List.getElem?_eq_getElem hj]; rfl
  rw [List.getElem?_take, if_pos (show j < l.length * eStr.size by show j < l.length * 1; omega)] at h4
  rw [← Array.getElem?_toList]; exact h4
 have hgl := lt_of_heap h.heap
 refine ⟨g, h.adr, fun j hj => ⟨?_, ?_⟩, hgl, fun d n os hd => ?_⟩
 · have hj' : j < l.length := by simpa [toLs] using hj
   rw [Nat.zero_add, cell_of_row w1 g j cur t (0, 0) h.heap, hget j hj']
   have hg2 : (toLs l)[j]? = some (l[j]).data.toList := by unfold toLs; rw [List.getElem?_map, List.getElem?_eq_getElem hj']; rfl
   have hg3 : (toLs l).toArray[j] = (l[j]).data.toList := by
    rw [List.getElem_toArray]
    exact (List.getElem?_eq_some_iff.1 hg2).2
   rw [getElem!_pos (toLs l).toArray j hj, hg3]
 · simp [World.frozen?, h.heap]
 · have hod := ofLs_length d
   have hheap : (Go.Sort.grow (putRow encStr (Go.Sort.ahead w1 n) g 0 d.toArray) os).heap = (w1.heap.modify g (onCells (putCells encStr 0 d.toArray))) ++ os := rfl
   have hat : ∀ k, k < w1.heap.size → (Go.Sort.grow (putRow encStr (Go.Sort.ahead w1 n) g 0 d.toArray) os).heap[k]? = (w1.heap.modify g (onCells (putCells encStr 0 d.toArray)))[k]? := fun k hk => by
    rw [hheap, Array.getElem?_append, if_pos (by simpa using hk)]
   have hset := hh.turn (i := 0) (x := row t eStr A c l) (y := row t eStr A c (ofLs d)) (o := some g) (w' := Go.Sort.grow (putRow encStr (Go.Sort.ahead w1 n) g 0 d.toArray) os) rfl
    ⟨rfl, rfl, rfl, by rw [hheap]; simp, fun k hk hne => by
     rw [hat k hk, Array.getElem?_modify, if_neg (fun e => hne (by rw [e]))]⟩
    ⟨by omega, h2, .inr ⟨g, putCells encStr 0 d.toArray cur, (0, 0), d.map encStr, ⟨h.adr, by rw [hat g hgl, Array.getElem?_modify, if_pos rfl, h.heap]; rfl, fun _ => rfl, fun i _ => by omega,
     by rw [← hsz]; show (putCells encStr 0 d.toArray cur).size = cur.size * 1; simp [putCells], ?_, str_row d⟩⟩⟩
    (fun b hb => .inl hb) (fun b e => by
     injection e with e
     subst e
     show rowblk A c = some g
     unfold rowblk; rw [if_neg (by omega), h.adr]; rfl)
   · exact hset
   · apply List.ext_getElem?
     intro k
     rw [List.getElem?_take, List.getElem?_map, hod]
     show (if k < d.length * 1 then _ else _) = _
     by_cases hk : k < d.length
     · rw [if_pos (by omega), Array.getElem?_toList]
       have hkc : k < cur.size := by omega
       simp [putCells, hk, hkc]
     · rw [if_neg (by omega), List.getElem?_eq_none (by omega)]; rfl
theorem own_sort_str (hm : l.length < 4611686018427387904) (hh : Hp w V (row t eStr A c l :: G) w1) : Calls Tryz.prog 104 #[.slice A l.length c] w1 (fun r w2 => r = .returned (.tuple #[]) ∧ Hp w V (row t eStr A c (ssort l) :: G) w2) := by
 by_cases hl : l = []
 · subst hl
   exact (Tryz.slices_Sort_string_none A c w1).mono (by rintro e w2 ⟨rfl, rfl⟩; exact ⟨rfl, by simpa [ssort, toLs, ofLs] using hh⟩)
 · obtain ⟨g, hA, hH, hg, hput⟩ := row_strs hh hl
   subst hA
   have h0 := Tryz.slices_Sort_string g 0 c (toLs l) w1 hH hg (by rw [toLs_length]; exact hm)
   rw [toLs_length] at h0
   refine h0.mono ?_
   rintro e w2 ⟨rfl, n, os, rfl⟩
   exact ⟨rfl, hput _ n os (by rw [List.length_mergeSort, toLs_length])⟩
theorem compactS_len (l : List (List UInt8)) : (Lib.compact l).length ≤ l.length := by
 unfold Lib.compact Lib.compactUpTo
 rw [List.length_map]
 exact Nat.le_trans (List.length_filter_le _ _) (by simp)
theorem ofLs_append (a b : List (List UInt8)) : ofLs (a ++ b) = ofLs a ++ ofLs b := List.map_append ..
theorem own_compact_str (hh : Hp w V (row t eStr A c l :: G) w1) : Calls Tryz.prog 105 #[.slice A l.length c] w1 (fun r w2 => r = .returned (.slice A (scomp l).length c) ∧ Hp w V (row t eStr A c (scomp l) :: G) w2) := by
 by_cases hl : l = []
 · subst hl
   exact (Tryz.slices_Compact_string_empty A c w1).mono (by rintro e w2 ⟨rfl, rfl⟩; exact ⟨rfl, hh⟩)
 · have hlc := (hh.objs _ List.mem_cons_self).1
   have hm : l.length ≤ maxLen := by have h1 := hh.objs _ List.mem_cons_self; exact Nat.le_trans h1.1 h1.2.1
   obtain ⟨g, hA, hH, hg, hput⟩ := row_strs hh hl
   subst hA
   have h0 := Tryz.slices_Compact_string g 0 c (toLs l) w1 hH (by rw [toLs_length]; unfold maxLen at hm; omega) (by rw [toLs_length]; exact hlc)
   rw [toLs_length] at h0
   refine h0.mono ?_
   rintro e w2 ⟨rfl, q, rfl⟩
   have hcl := compactS_len (toLs l)
   rw [toLs_length] at hcl
   refine ⟨by unfold scomp; rw [ofLs_length], ?_⟩
   have h5 := hput (Lib.compact (toLs l) ++ List.replicate (l.length - (Lib.compact (toLs l)).length) []) q #[] (by rw [List.length_append, List.length_replicate]; omega)
   rw [grow_empty, ofLs_append] at h5
   exact h5.turn (i := 0) (o := none) rfl ⟨rfl, rfl, rfl, Nat.le_refl _, fun _ _ _ => rfl⟩ (rowb_prefix (h5.objs _ List.mem_cons_self) (List.prefix_append _ _)) (fun b hb => .inl hb) (fun b e => by cases e)
end
end Go.Proofs.YtacjdfhllomccaaGreatDoor
