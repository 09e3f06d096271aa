/- Plain Lean: the law DirNames. Its conditions: none. -/
import Derived.Test.YtaccejbajgmdnaaDoorWDirNamesF
import Derived.Test.YtaccejbajgmdnaaDoorPDir4
import Derived.Test.YtaccejbajgmdnaaDoorLaw
namespace Go.Proofs.YtaccejbajgmdnaaDoor
set_option linter.unusedVariables false
set_option linter.unusedSimpArgs false
variable {F : Nat} [Big F]
theorem fm_cons {w : DElem → Option ByteArray} {x y : DElem} {a b : List DElem} (h1 : w x = w y) (h2 : a.filterMap w = b.filterMap w) : (x :: a).filterMap w = (y :: b).filterMap w := by
  rw [List.filterMap_cons, List.filterMap_cons, h1, h2]
theorem list_clo {p o t u : Int} (hu : u < t) : ∀ h : List DElem, (clo h t).filterMap (lsW p o u) = h.filterMap (lsW p o u)
  | [] => rfl
  | e :: h => by
    have ih := list_clo (p := p) (o := o) hu h
    unfold clo at ih ⊢
    rw [List.filterMap_cons]
    unfold cl
    by_cases hg : e.gone = 0
    · rw [if_pos hg]
      by_cases hm : e.made = t
      · rw [if_pos hm]
        dsimp only
        have hn : lsW p o u e = none := by
          unfold lsW
          rw [if_pos]
          refine .inr (.inr ?_)
          cases hl : live e u with
          | false => rfl
          | true => have := (live_iff.1 hl).1; omega
        rw [show (e :: h).filterMap (lsW p o u) = h.filterMap (lsW p o u) from by rw [List.filterMap_cons, hn]]
        exact ih
      · rw [if_neg hm]
        dsimp only
        have hw : lsW p o u { e with gone := t } = lsW p o u e := by
          have hl : live { e with gone := t } u = live e u := by
            rw [Bool.eq_iff_iff, live_iff, live_iff]
            dsimp only
            constructor
            · rintro ⟨h1, _⟩; exact ⟨h1, .inl hg⟩
            · rintro ⟨h1, _⟩; exact ⟨h1, .inr hu⟩
          have he : entS { e with gone := t } = entS e := rfl
          unfold lsW
          rw [hl, he]
        exact fm_cons hw ih
    · rw [if_neg hg]
      dsimp only
      exact fm_cons rfl ih
theorem list_past {l : List DElem} {k : DKey} {v : ByteArray} {p o t u : Int} (hr : Run l) (hu : u < t) : lsD (putR l k v t) p o u = lsD l p o u := by
  have hn : lsW p o u (newE k v t) = none := by
    unfold lsW
    rw [if_pos]
    refine .inr (.inr ?_)
    cases hl : live (newE k v t) u with
    | false => rfl
    | true => have : (newE k v t).made ≤ u := (live_iff.1 hl).1; have e : (newE k v t).made = t := rfl; omega
  have h : (putR l k v t).filterMap (lsW p o u) = l.filterMap (lsW p o u) := by
    conv => rhs; rw [split3 k hr.ord]
    unfold putR upd
    rw [List.filterMap_append, List.filterMap_append, List.filterMap_append, List.filterMap_append, List.filterMap_append, list_clo hu, List.filterMap_cons, hn, List.filterMap_nil, List.append_nil]
  unfold lsD
  rw [h]
theorem annalkeep_DirNames_true (F : Nat) [Big F] (l : List DElem) (p o : Int) (s : ByteArray) (of t v : Int) (_ : okAllW 56 okElem l) (_ : okInt .i64 p) (_ : okInt .i64 o) (_ : okStr s) (_ : s.size ≤ reachBytes) (_ : okInt .i64 of) (_ : okInt .i64 t) (_ : okInt .i64 v) : annalkeep_DirNames F l p o s of t v = some true := by
  obtain ⟨s, rfl⟩ : ∃ b, s = ofL b := ⟨s.data.toList, by simp [ofL]⟩
  unfold annalkeep_DirNames
  have h1 : findD [e0] 0 1 [97, 98] 1 = (7, 0) := by
    unfold findD
    rw [if_neg (by simpa using lookD_zero.2 ⟨run0, by decide⟩), if_neg (by decide), find0 e0 1 rfl rfl (live0 (by decide))]
    rfl
  rw [add0, Option.bind_some]
  dsimp only
  rw [show (ByteArray.mk #[97, 98] : ByteArray) = ofL [97, 98] from rfl, dir_Find_eq, Option.bind_some, h1]
  rw [show (((0 : Int) != 0) || (((0 : Int) != 0) || ((7 : Int) != 7))) = false from rfl, cond_false]
  obtain ⟨m, e, ea, hbad, ha⟩ := add_whole (F := F) l p o s of t
  rw [ea, Option.bind_some]
  dsimp only
  by_cases h : e = 0
  rotate_left
  · rw [bne0_true h, cond_true, hbad h]; rfl
  obtain ⟨n, A, rfl⟩ := ha h
  obtain ⟨_, hc, ht, hlen⟩ := putE_zero.1 A.put
  obtain ⟨hkk, t0, t1, _⟩ := newE_ok hc
  have hm : Run (putR l (slotS p o s n) (valD of s) t) := A.run.putR ht hc hlen
  have hl0 : lookD l p o = 0 := lookD_zero.2 ⟨A.run, A.key⟩
  have hm0 : lookD (putR l (slotS p o s n) (valD of s) t) p o = 0 := lookD_zero.2 ⟨hm, A.key⟩
  have hf : ∀ u, t ≤ u → findD (putR l (slotS p o s n) (valD of s) t) p o s u = (of, 0) := fun u hu => by
    unfold findD
    rw [if_neg (by simpa using hm0), if_neg (by simp [A.name]), added_find A hu, if_neg (by simp)]
  have hu : (if t - 1 < v then t - 1 else v) < t := by split <;> omega
  rw [bne0_false h, cond_false, dir_Find_eq, Option.bind_some, hf _ (by split <;> omega), dir_List_ok t hm0, Option.bind_some, w64 (n := t - 1) (by omega) (by omega), dir_List_ok _ hl0, Option.bind_some, dir_List_ok _ hm0, Option.bind_some, list_past A.run hu]
  have hins : ofL s ∈ (putR l (slotS p o s n) (valD of s) t).filterMap (lsW p o t) := by
    refine List.mem_filterMap.2 ⟨newE (slotS p o s n) (valD of s) t, (mem_upd A.run.ord).2 (.inl (List.mem_append_right _ (List.mem_singleton.2 rfl))), ?_⟩
    have he : entS (newE (slotS p o s n) (valD of s) t) = (ofL s, of, true) := ent_add rfl rfl A.n0 A.n8 A.of0 A.of1 A.name
    unfold lsW
    rw [if_neg, he, if_pos rfl]
    rintro (h1 | h1 | h1)
    · exact h1 rfl
    · exact h1 rfl
    · have hlv : live (newE (slotS p o s n) (valD of s) t) t = true := live_iff.2 ⟨Int.le_refl t, .inl rfl⟩
      rw [hlv] at h1; cases h1
  have hbound : ∀ (q : List DElem) (u : Int), q.length ≤ 400 → (lsD q p o u).length ≤ 400 := fun q u hq => by
    unfold lsD
    rw [ls_eq, ofLs_length]
    have h2 := compactS_len ((toLs (q.filterMap (lsW p o u))).mergeSort fun x y => decide (x ≤ y))
    have h3 := List.length_filterMap_le (lsW p o u) q
    rw [List.length_mergeSort, toLs_length] at h2
    unfold lsB; omega
  have hb1 := hbound (putR l (slotS p o s n) (valD of s) t) t hm.len
  have hb2 := hbound l (if t - 1 < v then t - 1 else v) A.run.len
  rw [show ((0 : Int) != 0) = false from rfl, cond_false, cond_false, cond_false, cond_false, show (of != of) = false by simp, cond_false]
  have hls : lsD (putR l (slotS p o s n) (valD of s) t) p o t = ofLs (lsB ((putR l (slotS p o s n) (valD of s) t).filterMap (lsW p o t))) := ls_eq _
  rw [hls] at hb1 ⊢
  rw [ofLs_length] at hb1
  rw [contains_ok (ls_mem hins) (by omega), Option.bind_some, Bool.not_true, cond_false, sorted_ok (ls_sorted _) (by omega), Option.bind_some, Bool.not_true, cond_false, equal_ok (Nat.le_trans hb2 (by decide)), Option.bind_some, Bool.not_true, Option.bind_some, cond_false]
  have hadd : dir_Add F (putR l (slotS p o s n) (valD of s) t) p o (ofL s) of t = some ([], 5) := by
    unfold dir_Add
    have a0 := A.of0
    have a1 := A.of1
    rw [dir_look_eq, Option.bind_some, bne0_false hm0, cond_false, dir_Name_eq, Option.bind_some, A.name, show (!true) = false from rfl, cond_false, decide_eq_false (by omega), decide_eq_false (by omega), Bool.or_false, cond_false, dir_find_eq _ p o _ _ (by have := hm.len; omega) hm.vals, Option.bind_some, added_find A t1]
    rfl
  rw [hadd, Option.bind_some, show (((5 : Int)) != 5) = false from rfl, cond_false]
  have hcut : cutE (putR l (slotS p o s n) (valD of s) t) (slotS p o s n) t = 0 := cutE_zero.2 ⟨hm, hkk, t0, t1, by rw [last_put A.run ht hc]; exact Int.le_refl _, by rw [now_put_self A.run ht hc hlen]; rfl⟩
  have hdrop : dir_Drop F (putR l (slotS p o s n) (valD of s) t) p o (ofL s) t = some (cutR l (slotS p o s n) t, 0) := by
    unfold dir_Drop
    rw [dir_look_eq, Option.bind_some, bne0_false hm0, cond_false, dir_Name_eq, Option.bind_some, A.name, show (!true) = false from rfl, cond_false, dir_find_eq _ p o _ _ (by have := hm.len; omega) hm.vals, Option.bind_some, added_find A t1]
    dsimp only
    rw [show (!true) = false from rfl, cond_false]
    show (run_Cut F (putR l (slotS p o s n) (valD of s) t) (slotS p o s n) t).bind _ = _
    rw [run_Cut_eq, Option.bind_some, if_pos hcut, hcut, cut_put A.run (by omega)]
  have hgone : findD (cutR l (slotS p o s n) t) p o s 2147483647 = (0, 4) := by
    have hr2 : Run (cutR l (slotS p o s n) t) := A.run.cutR ht t0 t1 _
    have hnone : (fdD (cutR l (slotS p o s n) t) p o (ofL s) 2147483647).2.2 = false := by
      unfold fdD
      rw [none_all (fun x hx => ?_)]
      · rfl
      · rcases (mem_upd A.run.ord).1 (show x ∈ upd l (slotS p o s n) (clo (hist l (slotS p o s n)) t) from hx) with h2 | h2
        · exact added_none A t1 x (.inr h2)
        · exact added_none A t1 x (.inl h2)
    unfold findD
    rw [if_neg (by simpa using lookD_zero.2 ⟨hr2, A.key⟩), if_neg (by simp [A.name]), if_pos hnone]
  rw [hdrop, Option.bind_some]
  dsimp only
  rw [dir_Find_eq, Option.bind_some, hgone]
  rfl
end Go.Proofs.YtaccejbajgmdnaaDoor
