/- Plain Lean: the names of a directory, listed. Its conditions: none. -/
import Derived.Test.YtaccejbajgmdnaaDoorLstF
import Derived.Test.YtaccejbajgmdnaaDoorStrsF
import Derived.Test.YtaccejbajgmdnaaDoorPDir3
namespace Go.Proofs.YtaccejbajgmdnaaDoor
set_option linter.unusedVariables false
set_option linter.unusedSimpArgs false
variable {F : Nat} [Big F]

def lsW (p o t : Int) (e : DElem) : Option ByteArray :=
  if e.key.pfs ≠ p ∨ e.key.obj ≠ o ∨ live e t = false then none else if (entS e).2.2 = true then some (entS e).1 else none
def lsD (l : List DElem) (p o t : Int) : List ByteArray := scomp (ssort (l.filterMap (lsW p o t)))
theorem filterMap_step {α β : Type} (w : α → Option β) {l : List α} {k : Nat} {e : α} (h : l[k]? = some e) : (l.take (k + 1)).filterMap w = (l.take k).filterMap w ++ (w e).toList := by
  rw [List.take_add_one, h, Option.toList_some, List.filterMap_append]
  cases h' : w e <;> simp [h']
theorem dir_List_ok {l : List DElem} {p o : Int} (t : Int) (h : lookD l p o = 0) : dir_List F l p o t = some (lsD l p o t, 0) := by
  obtain ⟨hr, _⟩ := lookD_zero.1 h
  have hl := hr.len
  unfold dir_List lsD
  rw [dir_look_eq, Option.bind_some, bne0_false h, cond_false]
  rw [loop_run (s := (([] : List ByteArray), (0 : Int))) (fun k => ((l.take k).filterMap (lsW p o t), (k : Int))) l.length (r := l.filterMap (lsW p o t)) (by simp) (by omega) ?hs ?he, Option.bind_some]
  case he =>
    dsimp only
    rw [decide_eq_false (by omega), cond_false, List.take_length]
  case hs =>
    intro k hk
    have hg : l[k]? = some l[k] := List.getElem?_eq_getElem hk
    have hlen : ((l.take k).filterMap (lsW p o t)).length ≤ 400 := Nat.le_trans (List.length_filterMap_le _ _) (by rw [List.length_take]; omega)
    dsimp only
    rw [decide_eq_true (by omega), cond_true, idx_nat', hg, Option.bind_some, filterMap_step _ hg, w64 (by omega) (by omega)]
    generalize (l.take k).filterMap (lsW p o t) = acc at hlen
    generalize he : l[k] = e
    have hv := hr.vals e (by rw [← he]; exact List.getElem_mem hk)
    unfold lsW
    by_cases c1 : e.key.pfs = p
    · rw [show (e.key.pfs != p) = false by simpa using c1, cond_false]
      by_cases c2 : e.key.obj = o
      · rw [show (e.key.obj != o) = false by simpa using c2, cond_false, elem_Live_eq, Option.bind_some, Option.bind_some]
        cases c3 : live e t with
        | false => rw [show (!false) = true from rfl, cond_true, Option.bind_some, if_pos (by simp)]; simp
        | true =>
          rw [show (!true) = false from rfl, cond_false, dir_entry_eq e hv, Option.bind_some, if_neg (by simp [c1, c2])]
          cases c4 : (entS e).2.2 with
          | true => rw [cond_true, if_pos rfl, grow_ok (by simp; omega) (by simp; omega), Option.bind_some, Option.bind_some]; simp
          | false => rw [cond_false, if_neg (by simp), Option.bind_some]; simp
      · rw [show (e.key.obj != o) = true by simpa using c2, cond_true, Option.bind_some, cond_true, Option.bind_some, if_pos (by simp [c2])]; simp
    · rw [show (e.key.pfs != p) = true by simpa using c1, cond_true, Option.bind_some, cond_true, Option.bind_some, if_pos (by simp [c1])]; simp
  · have : (l.filterMap (lsW p o t)).length < 4611686018427387904 := Nat.lt_of_le_of_lt (List.length_filterMap_le _ _) (by omega)
    rw [show ssortO (l.filterMap (lsW p o t)) = some (ssort (l.filterMap (lsW p o t))) from if_pos this, Option.bind_some]
/-! ### What a sorted list without doubles holds -/
theorem mem_uptoS (d : Array (List UInt8)) : ∀ m j, j < m → d[j]! ∈ Lib.compactUpTo d m
  | 0, j, h => by omega
  | m + 1, j, h => by
    rw [Lib.compactUpTo_succ]
    rcases Nat.lt_or_ge j m with hj | hj
    · exact List.mem_append_left _ (mem_uptoS d m j hj)
    · obtain rfl : j = m := by omega
      cases hk : Lib.keeps d j with
      | true => exact List.mem_append_right _ (by simp)
      | false =>
        have h2 : j ≠ 0 ∧ d[j]! = d[j - 1]! := by unfold Lib.keeps at hk; simpa using hk
        rw [h2.2]; exact List.mem_append_left _ (mem_uptoS d j (j - 1) (by omega))
theorem mem_compactS {zs : List (List UInt8)} {x : List UInt8} (h : x ∈ zs) : x ∈ Lib.compact zs := by
  obtain ⟨j, hj, rfl⟩ := List.getElem_of_mem h
  have := mem_uptoS zs.toArray zs.length j hj
  have e : zs.toArray[j]! = zs[j] := by simp [hj]
  rw [e] at this
  exact this
theorem compact_sub (zs : List (List UInt8)) : (Lib.compact zs).Sublist zs := by
  unfold Lib.compact Lib.compactUpTo
  have h1 : ((List.range zs.length).filter (Lib.keeps zs.toArray)).Sublist (List.range zs.length) := List.filter_sublist
  have h2 := h1.map (zs.toArray[·]!)
  have e : (List.range zs.length).map (zs.toArray[·]!) = zs := by
    apply List.ext_getElem
    · simp
    · intro i h1 h2
      simp [h2]
  rw [e] at h2
  exact h2
theorem toLs_ofLs (d : List (List UInt8)) : toLs (ofLs d) = d := by
  unfold toLs ofLs
  rw [List.map_map]
  exact (List.map_congr_left fun a _ => rfl).trans (List.map_id d)
def lsB (z : List ByteArray) : List (List UInt8) := Lib.compact ((toLs z).mergeSort fun x y => decide (x ≤ y))
theorem ls_eq (z : List ByteArray) : scomp (ssort z) = ofLs (lsB z) := by unfold scomp ssort lsB; rw [toLs_ofLs]
theorem ls_mem {z : List ByteArray} {s : List UInt8} (h : ofL s ∈ z) : s ∈ lsB z := by
  refine mem_compactS (List.mem_mergeSort.2 ?_)
  exact List.mem_map.2 ⟨ofL s, h, rfl⟩
theorem ls_sorted (z : List ByteArray) : (lsB z).Pairwise fun a b => a ≤ b := by
  have h := List.pairwise_mergeSort (le := fun (x y : List UInt8) => decide (x ≤ y)) (fun a b c h1 h2 => by
    simp only [decide_eq_true_eq] at h1 h2 ⊢; exact List.le_trans h1 h2) (fun a b => by
    simp only [Bool.or_eq_true, decide_eq_true_eq]; exact List.le_total a b) (toLs z)
  exact (h.imp fun h => by simpa using h).sublist (compact_sub _)
theorem less_ofL (a b : List UInt8) : cmp_Less_string (ofL a) (ofL b) = some (decide (a < b)) := by
  have h : slt (ofL a) (ofL b) = decide (a < b) := by
    unfold slt
    rw [ByteArray.toList_eq, ByteArray.toList_eq]
    exact bytesLess_eq a b
  unfold cmp_Less_string
  rw [h]
  unfold cmp_isNaN_string
  rw [(seq_iff (ofL a) (ofL a)).2 rfl]; rfl
theorem sorted_ok {d : List (List UInt8)} (hd : d.Pairwise fun a b => a ≤ b) (hl : d.length ≤ 1000000) : slices_IsSorted_string F (ofLs d) = some true := by
  unfold slices_IsSorted_string
  have hn : (ofLs d).length = d.length := ofLs_length d
  rw [hn, w64 (by omega) (by omega), loop_run (s := (d.length : Int) - 1) (fun k => (d.length : Int) - 1 - (k : Int)) (d.length - 1) (r := .inl ()) (by simp) (by omega) (fun k hk => ?_) (by rw [decide_eq_false (by omega), cond_false]), Option.bind_some]
  obtain ⟨i, hi⟩ : ∃ i : Nat, (i : Int) = (d.length : Int) - 1 - (k : Int) - 1 := ⟨d.length - 1 - k - 1, by omega⟩
  have e1 : (d.length : Int) - 1 - (k : Int) = ((i + 1 : Nat) : Int) := by omega
  have hi1 : i + 1 < d.length := by omega
  have g1 : (ofLs d)[i + 1]? = some (ofL d[i + 1]) := by unfold ofLs; rw [List.getElem?_map, List.getElem?_eq_getElem hi1]; rfl
  have g0 : (ofLs d)[i]? = some (ofL d[i]) := by unfold ofLs; rw [List.getElem?_map, List.getElem?_eq_getElem (by omega)]; rfl
  rw [decide_eq_true (by omega), cond_true, e1, idx_nat', g1, Option.bind_some, w64 (by omega) (by omega), show ((i + 1 : Nat) : Int) - 1 = (i : Int) by omega, idx_nat', g0, Option.bind_some, less_ofL, Option.bind_some]
  have hle : d[i] ≤ d[i + 1] := (List.pairwise_iff_getElem.1 hd) i (i + 1) (by omega) hi1 (by omega)
  rw [decide_eq_false (fun h => absurd hle (List.not_le.2 h)), cond_false]
  congr 2; omega
theorem contains_ok {d : List (List UInt8)} {s : List UInt8} (hs : s ∈ d) (hl : d.length ≤ 1000000) : slices_Contains_string F (ofLs d) (ofL s) = some true := by
  unfold slices_Contains_string slices_Index_string
  have hn : (ofLs d).length = d.length := ofLs_length d
  rw [loop_find (ofLs d) (fun k e => if seq (ofL s) e = true then some (Sum.inr (k : Int)) else none) (.inl ()) (by omega) rfl (fun k e hk _ => ?_) (by rw [decide_eq_false (by omega), cond_false]), Option.bind_some]
  · cases hf : ((ofLs d).zipIdx).findSome? (fun q => (fun (k : Nat) (e : ByteArray) => if seq (ofL s) e = true then some (Sum.inr (k : Int) : Unit ⊕ Int) else none) q.2 q.1) with
    | none =>
      exfalso
      rw [List.findSome?_eq_none_iff] at hf
      obtain ⟨i, hi, he⟩ := List.getElem_of_mem hs
      have hm : (ofL s, i) ∈ (ofLs d).zipIdx := by
        rw [List.mem_zipIdx_iff_getElem?]
        show (ofLs d)[i]? = some (ofL s)
        unfold ofLs; rw [List.getElem?_map, List.getElem?_eq_getElem hi, he]; rfl
      have := hf _ hm
      dsimp only at this
      rw [if_pos ((seq_iff _ _).2 rfl)] at this
      cases this
    | some r =>
      obtain ⟨q, _, hw⟩ := List.exists_of_findSome?_eq_some hf
      dsimp only at hw
      split at hw
      · rw [← Option.some.inj hw]
        show some (decide ((0 : Int) ≤ (q.2 : Int))) = _
        rw [decide_eq_true (by omega)]
      · cases hw
  · have hkl := (List.getElem?_eq_some_iff.1 hk).1
    rw [decide_eq_true (by omega), cond_true, idx_nat', hk, Option.bind_some]
    cases hq : seq (ofL s) e with
    | true => rw [cond_true, if_pos rfl]
    | false => rw [cond_false, if_neg (by simp), w64 (by omega) (by omega)]
theorem equal_ok {a : List ByteArray} (hl : a.length ≤ 1000000) : slices_Equal_string F a a = some true := by
  unfold slices_Equal_string
  rw [show ((a.length : Int) != (a.length : Int)) = false by simp, cond_false, loop_run (s := (0 : Int)) (fun k => (k : Int)) a.length (r := .inl ()) rfl (by omega) (fun k hk => ?_) (by rw [decide_eq_false (by omega), cond_false]), Option.bind_some]
  rw [decide_eq_true (by omega), cond_true, idx_nat', List.getElem?_eq_getElem hk, Option.bind_some, Option.bind_some, (seq_iff _ _).2 rfl, Bool.not_true, cond_false, w64 (by omega) (by omega)]; rfl
end Go.Proofs.YtaccejbajgmdnaaDoor
