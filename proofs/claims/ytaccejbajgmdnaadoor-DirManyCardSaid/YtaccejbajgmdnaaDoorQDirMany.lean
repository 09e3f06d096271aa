/- Plain Lean: the law DirMany. Its conditions: none. -/
import Derived.Test.YtaccejbajgmdnaaDoorWDirManyF
import Derived.Test.YtaccejbajgmdnaaDoorPDir5
import Derived.Test.YtaccejbajgmdnaaDoorLaw
namespace Go.Proofs.YtaccejbajgmdnaaDoor
set_option linter.unusedVariables false
set_option linter.unusedSimpArgs false
variable {F : Nat} [Big F]
theorem contains_no {d : List (List UInt8)} {s : List UInt8} (hs : s ∉ d) (hl : d.length ≤ 1000000) : slices_Contains_string F (ofLs d) (ofL s) = some false := by
  unfold slices_Contains_string slices_Index_string
  have hn : (ofLs d).length = d.length := ofLs_length d
  rw [loop_run (s := (0 : Int)) (fun k => (k : Int)) d.length (r := .inl ()) rfl (by omega) (fun k hk => ?_) (by rw [decide_eq_false (by omega), cond_false]), Option.bind_some]
  · rfl
  · have g : (ofLs d)[k]? = some (ofL d[k]) := by unfold ofLs; rw [List.getElem?_map, List.getElem?_eq_getElem hk]; rfl
    have hne : seq (ofL s) (ofL d[k]) = false := by
      rw [seq_ofL, beq_eq_false_iff_ne]
      exact fun e => hs (e ▸ List.getElem_mem hk)
    rw [decide_eq_true (by omega), cond_true, idx_nat', g, Option.bind_some, hne, cond_false, w64 (by omega) (by omega)]; rfl
theorem filterMap_all {α β : Type} {w : α → Option β} {g : α → β} : ∀ {l : List α}, (∀ e ∈ l, w e = some (g e)) → l.filterMap w = l.map g
  | [], _ => rfl
  | x :: l, h => by rw [List.filterMap_cons, h x List.mem_cons_self, List.map_cons, filterMap_all fun e he => h e (List.mem_cons_of_mem x he)]
theorem Many.listed {o i : Int} {w : List (List UInt8)} {l : List DElem} (h : Many o i w l) : lsD l 0 o 2147483647 = ssort (ofLs w) := by
  have h1 : l.filterMap (lsW 0 o 2147483647) = l.map fun e => (entS e).1 := filterMap_all fun e he => by
    obtain ⟨a, b, _, d⟩ := h.own e he
    unfold lsW
    rw [if_neg (by rw [a, b, h.live he]; simp), if_pos d]
  have hp : (toLs (l.map fun e => (entS e).1)).Perm w := by
    have := h.names.map fun s : ByteArray => s.data.toList
    have e : toLs (ofLs w) = w := toLs_ofLs w
    unfold toLs at e ⊢
    rwa [e] at this
  have hs : ∀ z : List (List UInt8), (z.mergeSort fun x y => decide (x ≤ y)).Pairwise fun a b => decide (a ≤ b) = true := fun z =>
    List.pairwise_mergeSort (le := fun (x y : List UInt8) => decide (x ≤ y)) (fun a b c h1 h2 => by
      simp only [decide_eq_true_eq] at h1 h2 ⊢; exact List.le_trans h1 h2) (fun a b => by
      simp only [Bool.or_eq_true, decide_eq_true_eq]; exact List.le_total a b) z
  have he : (toLs (l.map fun e => (entS e).1)).mergeSort (fun x y => decide (x ≤ y)) = w.mergeSort fun x y => decide (x ≤ y) := by
    refine List.Perm.eq_of_pairwise (le := fun a b => decide (a ≤ b) = true) (fun a b _ _ h1 h2 => ?_) (hs _) (hs _) ((List.mergeSort_perm _ _).trans (hp.trans (List.mergeSort_perm _ _).symm))
    simp only [decide_eq_true_eq] at h1 h2
    exact List.le_antisymm h1 h2
  have hd : (w.mergeSort fun x y => decide (x ≤ y)).Nodup := (List.mergeSort_perm _ _).nodup_iff.2 h.nodup
  have hc : Lib.compact (w.mergeSort fun x y => decide (x ≤ y)) = w.mergeSort fun x y => decide (x ≤ y) := by
    generalize w.mergeSort (fun x y => decide (x ≤ y)) = z at hd
    refine Lib.compact_all z fun j hj => ?_
    unfold Lib.keeps
    rw [decide_eq_true_eq]
    rcases Nat.eq_zero_or_pos j with h0 | h0
    · exact .inl h0
    · right
      rw [getElem!_pos z.toArray j (by simpa using hj), getElem!_pos z.toArray (j - 1) (by simp; omega), List.getElem_toArray, List.getElem_toArray]
      exact fun e => (List.pairwise_iff_getElem.1 hd (j - 1) j (by omega) hj (by omega)) e.symm
  unfold lsD
  rw [h1, ls_eq]
  unfold lsB ssort
  rw [he, hc, toLs_ofLs]
theorem annalkeep_DirMany_true (F : Nat) [Big F] (names : List ByteArray) (obj : Int) (_ : okAllW 16 okStrW names) (_ : okInt .i64 obj) : annalkeep_DirMany F names obj = some true := by
  have h1 : lsD [e0] 0 1 1 = ofLs [[97, 98]] := by
    have hf : [e0].filterMap (lsW 0 1 1) = [ofL [97, 98]] := by
      rw [List.filterMap_cons]
      unfold lsW
      rw [if_neg (by rw [live0 (by decide)]; decide), ent0 e0 rfl rfl, if_pos rfl]; rfl
    unfold lsD
    rw [hf, ls_eq]
    unfold lsB
    rw [show toLs [ofL [97, 98]] = [[97, 98]] from rfl, List.mergeSort_singleton]
    rfl
  obtain ⟨o, ew, o0, o1⟩ := within_some obj (n := 100) (by decide) (by decide)
  unfold annalkeep_DirMany
  rw [add0, Option.bind_some]
  dsimp only
  rw [dir_List_ok 1 (lookD_zero.2 ⟨run0, by decide⟩), Option.bind_some, h1]
  dsimp only
  rw [show ((0 : Int) != 0) = false from rfl, cond_false, cond_false, show ([(ByteArray.mk #[97, 98])] : List ByteArray) = ofLs [[97, 98]] from rfl, equal_ok (by decide), Option.bind_some, Bool.not_true, Option.bind_some, cond_false, ew, Option.bind_some]
  obtain ⟨k, hk, hk2, hk3⟩ : ∃ k : Nat, (if (30 : Int) < (names.length : Int) then 30 else (names.length : Int)) = (k : Int) ∧ k ≤ names.length ∧ k ≤ 30 := by
    by_cases h : (30 : Int) < (names.length : Int)
    · exact ⟨30, by rw [if_pos h]; rfl, by omega, by omega⟩
    · exact ⟨names.length, by rw [if_neg h], by omega, by omega⟩
  rw [hk, lslice_to hk2, Option.bind_some]
  have hns : (names.take k).length ≤ 30 := by rw [List.length_take]; omega
  generalize names.take k = ns at hns
  refine loop_rec (fun m st q => q = true ∧ ∃ (w : List (List UInt8)) (l : List DElem) (i : Nat), st = (ofLs w, l, (i : Int)) ∧ i + m = ns.length ∧ w.length ≤ i ∧ Many o (i : Int) w l) ?_ (m := ns.length) (by omega) ⟨rfl, [], [], 0, rfl, by omega, by simp, ⟨Run.nil, by decide, by simp, (fun e he => by cases he), List.Perm.refl _, List.nodup_nil⟩⟩
  rintro m st q ⟨rfl, w, l, i, rfl, him, hwi, M⟩
  have hlk : lookD l 0 o = 0 := lookD_zero.2 ⟨M.run, by unfold chkK; rw [if_neg]; dsimp only; omega⟩
  by_cases hm : m = 0
  · left
    refine ⟨.inl (ofLs w, l), by dsimp only; rw [decide_eq_false (by omega), cond_false], ?_⟩
    dsimp only
    have hlw : (ofLs w).length ≤ 30 := by rw [ofLs_length]; omega
    rw [dir_List_ok 2147483647 hlk, Option.bind_some, show ssortO (ofLs w) = some (ssort (ofLs w)) from if_pos (by omega), Option.bind_some]
    dsimp only
    rw [show ((0 : Int) == 0) = true from rfl, cond_true, M.listed, equal_ok (by rw [ssort_length]; omega), Option.bind_some, Option.bind_some]
  · right
    have hil : i < ns.length := by omega
    obtain ⟨s, hs⟩ : ∃ s, ns[i] = ofL s := ⟨ns[i].data.toList, rfl⟩
    have hg : ns[i]? = some (ofL s) := by rw [List.getElem?_eq_getElem hil, hs]
    have hstep : (i : Int) + 1 = ((i + 1 : Nat) : Int) := by omega
    by_cases hn : nmB s = true
    rotate_left
    · have hn' : nmB s = false := by simpa using hn
      refine ⟨m - 1, (ofLs w, l, ((i + 1 : Nat) : Int)), by omega, ?_, rfl, w, l, i + 1, rfl, by omega, by omega, by rw [← hstep]; exact M.next⟩
      dsimp only
      rw [decide_eq_true (by omega), cond_true, idx_nat', hg, Option.bind_some, w64 (by omega) (by omega), add_name hlk hn', Option.bind_some, dir_Name_eq, Option.bind_some, hn']
      rw [show (!false) = true from rfl, cond_true, show ((3 : Int) != 3) = false from rfl, cond_false, Option.bind_some, hstep]
    · have i1 : (i : Int) ≤ 30 := by omega
      by_cases hw : s ∈ w
      · refine ⟨m - 1, (ofLs w, l, ((i + 1 : Nat) : Int)), by omega, ?_, rfl, w, l, i + 1, rfl, by omega, by omega, by rw [← hstep]; exact M.next⟩
        dsimp only
        rw [decide_eq_true (by omega), cond_true, idx_nat', hg, Option.bind_some, w64 (by omega) (by omega), add_there hlk hn (by omega) (by omega) (M.seen.2 hw), Option.bind_some, dir_Name_eq, Option.bind_some, hn]
        rw [show (!true) = false from rfl, cond_false, contains_ok hw (by omega), Option.bind_some, cond_true, show ((5 : Int) != 5) = false from rfl, cond_false, Option.bind_some, hstep]
      · have hno : (fdD l 0 o (ofL s) 2147483647).2.2 = false := by
          rw [Bool.eq_false_iff]; exact fun h => hw (M.seen.1 h)
        rcases add_free (F := F) (t := (i : Int) + 1) hlk hn (of := (i : Int)) (by omega) (by omega) hno (M.puts o0 o1 (by omega) i1 hn) with ha | ⟨n, A, ha⟩
        · refine ⟨m - 1, (ofLs w, l, ((i + 1 : Nat) : Int)), by omega, ?_, rfl, w, l, i + 1, rfl, by omega, by omega, by rw [← hstep]; exact M.next⟩
          dsimp only
          rw [decide_eq_true (by omega), cond_true, idx_nat', hg, Option.bind_some, w64 (by omega) (by omega), ha, Option.bind_some, dir_Name_eq, Option.bind_some, hn]
          rw [show (!true) = false from rfl, cond_false, contains_no hw (by omega), Option.bind_some, cond_false, show ((8 : Int) == 0) = false from rfl, cond_false, show ((8 : Int) != 8) = false from rfl, cond_false, Option.bind_some, hstep]
        · have M2 := M.add A hw
          have hlk2 : lookD (putR l (slotS 0 o s n) (valD (i : Int) s) ((i : Int) + 1)) 0 o = 0 := lookD_zero.2 ⟨M2.run, A.key⟩
          have hfd : findD (putR l (slotS 0 o s n) (valD (i : Int) s) ((i : Int) + 1)) 0 o s ((i : Int) + 1) = ((i : Int), 0) := by
            unfold findD
            rw [if_neg (by simpa using hlk2), if_neg (by simp [hn]), added_find A (Int.le_refl _), if_neg (by simp)]
          refine ⟨m - 1, (ofLs (w ++ [s]), putR l (slotS 0 o s n) (valD (i : Int) s) ((i : Int) + 1), ((i + 1 : Nat) : Int)), by omega, ?_, rfl, w ++ [s], _, i + 1, rfl, by omega, by rw [List.length_append, List.length_singleton]; omega, by rw [← hstep]; exact M2⟩
          dsimp only
          rw [decide_eq_true (by omega), cond_true, idx_nat', hg, Option.bind_some, w64 (by omega) (by omega), ha, Option.bind_some, dir_Name_eq, Option.bind_some, hn]
          rw [show (!true) = false from rfl, cond_false, contains_no hw (by omega), Option.bind_some, cond_false, show ((0 : Int) == 0) = true from rfl, cond_true, grow_ok (by rw [ofLs_length]; simp; omega) (by rw [ofLs_length]; simp; omega), Option.bind_some, dir_Find_eq, Option.bind_some, hfd]
          rw [show (((0 : Int) != 0) || ((i : Int) != (i : Int))) = false by simp, cond_false, Option.bind_some, hstep, ofLs_append]
          rfl
end Go.Proofs.YtaccejbajgmdnaaDoor
