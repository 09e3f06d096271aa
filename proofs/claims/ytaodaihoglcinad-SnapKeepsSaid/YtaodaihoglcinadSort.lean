/- Rows of ints of the call's own, sorted and compacted by the library's functions. Its conditions: as each states. -/
import Derived.Test.YtaodaihoglcinadRow
import Derived.Test.YtaodaihoglcinadOps
import Derived.Test.YtaodaihoglcinadRec
import Derived.Test.YtaodaihoglcinadLay
namespace Go.Proofs.Ytaodaihoglcinad
open Go.Sort
def isort (l : List Int) : List Int := l.mergeSort fun x y => decide (x ≤ y)
def sortO (l : List Int) : Option (List Int) := if l.length < 4611686018427387904 then some (isort l) else none
theorem sortO_some {l y : List Int} (h : sortO l = some y) : l.length < 4611686018427387904 ∧ y = isort l := by
  unfold sortO at h
  split at h
  · cases h; exact ⟨by assumption, rfl⟩
  · cases h
theorem isort_length (l : List Int) : (isort l).length = l.length := by unfold isort; simp
theorem int_cells {V : View} {xs : List Value} {l : List Int} (h : RowRep V eInt xs l) : xs = l.map (Value.int .i64) := by
  obtain ⟨h1, h2⟩ := h
  apply List.ext_getElem?
  intro k
  rw [List.getElem?_map]
  cases hk : l[k]? with
  | none =>
    rw [List.getElem?_eq_none_iff] at hk
    rw [List.getElem?_eq_none (by rw [h1]; show l.length * 1 ≤ k; omega)]; rfl
  | some x =>
    have h3 : (xs.drop (k * 1)).take 1 = [Value.int .i64 x] := h2 k x hk
    have h4 : ((xs.drop (k * 1)).take 1)[0]? = some (Value.int .i64 x) := by rw [h3]; rfl
    rw [List.getElem?_take, if_pos (by omega), List.getElem?_drop] at h4
    rw [show k * 1 + 0 = k by omega] at h4
    rw [h4]; rfl
theorem int_row {V : View} (l : List Int) : RowRep V eInt (l.map (Value.int .i64)) l := by
  refine ⟨by rw [List.length_map]; show l.length = l.length * 1; omega, fun k x hk => ?_⟩
  show ((l.map (Value.int .i64)).drop (k * 1)).take 1 = [Value.int .i64 x]
  rw [show k * 1 = k by omega]
  have hl : k < l.length := (List.getElem?_eq_some_iff.1 hk).1
  rw [List.drop_eq_getElem_cons (by rw [List.length_map]; exact hl), List.take_succ_cons, List.take_zero, List.getElem_map]
  rw [(List.getElem?_eq_some_iff.1 hk).2]
section
variable {w : World} {V : View} {G : List HObj} {w1 : World} {A : Option Addr} {c : Nat} {l : List Int} {t : TypeId}
theorem row_ints (hh : Hp w V (row t eInt A c l :: G) w1) (hl : l ≠ []) : ∃ g, A = some ⟨g, 0, none⟩ ∧ Holds (Value.int .i64) w1 g 0 l.toArray ∧ g < w1.heap.size ∧
    ∀ (d : List Int) (n : Nat) (os : Array Obj), d.length = l.length → Hp w V (row t eInt A c d :: G) (Go.Sort.grow (putRow (Value.int .i64) (Go.Sort.ahead w1 n) g 0 d.toArray) os) := by
  obtain ⟨h1, h2, h3⟩ := hh.objs _ List.mem_cons_self
  have hlp : 0 < l.length := by cases l with | nil => exact absurd rfl hl | cons => simp
  rcases h3 with h3 | ⟨g, cur, fz, xs, h⟩
  · omega
  have hfz := h.plain rfl
  subst hfz
  have hxs := int_cells h.rep
  have hsz : cur.size = c := by rw [h.size]; show c * 1 = c; omega
  have hget : ∀ j (hj : j < l.length), cur[j]? = some (Value.int .i64 l[j]) := fun j hj => by
    have h4 : (cur.toList.take (l.length * eInt.size))[j]? = some (Value.int .i64 l[j]) := by
      rw [h.take, hxs, List.getElem?_map, List.getElem?_eq_getElem hj]; rfl
    rw [List.getElem?_take, if_pos (show j < l.length * eInt.size by show j < l.length * 1; omega)] at h4
    rw [← Array.getElem?_toList]; exact h4
  have hgl := lt_of_heap h.heap
  refine ⟨g, h.adr, fun j hj => ⟨?_, ?_⟩, hgl, fun d n os hd => ?_⟩
  · have hj' : j < l.length := by simpa using hj
    rw [Nat.zero_add, cell_of_row w1 g j cur t (0, 0) h.heap, hget j hj']
    simp [hj']
  · simp [World.frozen?, h.heap]
  · have hheap : (Go.Sort.grow (putRow (Value.int .i64) (Go.Sort.ahead w1 n) g 0 d.toArray) os).heap = (w1.heap.modify g (onCells (putCells (Value.int .i64) 0 d.toArray))) ++ os := rfl
    have hat : ∀ k, k < w1.heap.size → (Go.Sort.grow (putRow (Value.int .i64) (Go.Sort.ahead w1 n) g 0 d.toArray) os).heap[k]? = (w1.heap.modify g (onCells (putCells (Value.int .i64) 0 d.toArray)))[k]? := fun k hk => by
      rw [hheap, Array.getElem?_append, if_pos (by simpa using hk)]
    have hset := hh.turn (i := 0) (x := row t eInt A c l) (y := row t eInt A c d) (o := some g) (w' := Go.Sort.grow (putRow (Value.int .i64) (Go.Sort.ahead w1 n) g 0 d.toArray) os) rfl
      ⟨rfl, rfl, rfl, by rw [hheap]; simp, fun k hk hne => by
        rw [hat k hk, Array.getElem?_modify, if_neg (fun e => hne (by rw [e]))]⟩
      ⟨by omega, h2, .inr ⟨g, putCells (Value.int .i64) 0 d.toArray cur, (0, 0), d.map (Value.int .i64), ⟨h.adr, by rw [hat g hgl, Array.getElem?_modify, if_pos rfl, h.heap]; rfl, fun _ => rfl, fun i _ => by omega,
        by rw [← hsz]; show (putCells (Value.int .i64) 0 d.toArray cur).size = cur.size * 1; simp [putCells], ?_, int_row d⟩⟩⟩
      (fun b hb => .inl hb) (fun b e => by
        injection e with e
        subst e
        show rowblk A c = some g
        unfold rowblk; rw [if_neg (by omega), h.adr]; rfl)
    · exact hset
    · apply List.ext_getElem?
      intro k
      rw [List.getElem?_take, List.getElem?_map]
      show (if k < d.length * 1 then _ else _) = _
      by_cases hk : k < d.length
      · rw [if_pos (by omega), Array.getElem?_toList]
        have hkc : k < cur.size := by omega
        simp [putCells, hk, hkc]
      · rw [if_neg (by omega), List.getElem?_eq_none (by omega)]; rfl
theorem own_sort_int (hm : l.length < 4611686018427387904) (hh : Hp w V (row t eInt A c l :: G) w1) : Calls Try.prog 11 #[.slice A l.length c] w1 (fun r w2 => r = .returned (.tuple #[]) ∧ Hp w V (row t eInt A c (isort l) :: G) w2) := by
  by_cases hl : l = []
  · subst hl
    exact (Try.slices_Sort_int_none A c w1).mono (by rintro e w2 ⟨rfl, rfl⟩; exact ⟨rfl, by simpa [isort] using hh⟩)
  · obtain ⟨g, hA, hH, hg, hput⟩ := row_ints hh hl
    subst hA
    refine (Try.slices_Sort_int g 0 c l w1 hH hg hm).mono ?_
    rintro e w2 ⟨rfl, n, os, rfl⟩
    exact ⟨rfl, hput _ n os (isort_length l)⟩
theorem compact_len (l : List Int) : (Lib.compact l).length ≤ l.length := by
  unfold Lib.compact Lib.compactUpTo
  rw [List.length_map]
  exact Nat.le_trans (List.length_filter_le _ _) (by simp)
theorem own_compact_int (hh : Hp w V (row t eInt A c l :: G) w1) : Calls Try.prog 12 #[.slice A l.length c] w1 (fun r w2 => r = .returned (.slice A (Lib.compact l).length c) ∧ Hp w V (row t eInt A c (Lib.compact l) :: G) w2) := by
  by_cases hl : l = []
  · subst hl
    exact (Try.slices_Compact_int_empty A c w1).mono (by rintro e w2 ⟨rfl, rfl⟩; exact ⟨rfl, hh⟩)
  · have hlc := (hh.objs _ List.mem_cons_self).1
    have hm : l.length ≤ maxLen := by have h1 := hh.objs _ List.mem_cons_self; exact Nat.le_trans h1.1 h1.2.1
    obtain ⟨g, hA, hH, hg, hput⟩ := row_ints hh hl
    subst hA
    refine (Try.slices_Compact_int g 0 c l w1 hH (by unfold maxLen at hm; omega) hlc).mono ?_
    rintro e w2 ⟨rfl, q, rfl⟩
    refine ⟨rfl, ?_⟩
    have h5 := hput (Lib.compact l ++ List.replicate (l.length - (Lib.compact l).length) 0) q #[] (by rw [List.length_append, List.length_replicate]; have := compact_len l; omega)
    rw [grow_empty] at h5
    exact h5.turn (i := 0) (o := none) rfl ⟨rfl, rfl, rfl, Nat.le_refl _, fun _ _ _ => rfl⟩ (rowb_prefix (h5.objs _ List.mem_cons_self) (List.prefix_append _ _)) (fun b hb => .inl hb) (fun b e => by cases e)
end
end Go.Proofs.Ytaodaihoglcinad
