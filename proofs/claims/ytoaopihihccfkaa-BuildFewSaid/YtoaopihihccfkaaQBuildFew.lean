/- Plain Lean: no tree of the same records has fewer nodes than one made at once. Its conditions: none beyond what holds of every argument. -/
import Derived.Test.YtoaopihihccfkaaWBuildFewF
import Derived.Test.YtoaopihihccfkaaPTreeL
namespace Go.Proofs.Ytoaopihihccfkaa
set_option linter.unusedVariables false
set_option linter.unusedSimpArgs false
theorem len_flat_le {α β : Type} {f : α → List β} {c : Nat} : ∀ {l : List α}, (∀ a ∈ l, (f a).length ≤ c) → (l.flatMap f).length ≤ c * l.length
  | [], _ => by simp
  | a :: l, h => by
    have h1 := len_flat_le (l := l) fun b hb => h b (List.mem_cons_of_mem _ hb)
    have h2 := h a List.mem_cons_self
    rw [List.flatMap_cons, List.length_append, List.length_cons, Nat.mul_succ]; omega
theorem len_flat_cons {α β : Type} {f : α → β} {g : α → List β} : ∀ l : List α, (l.flatMap fun a => f a :: g a).length = l.length + (l.flatMap g).length
  | [] => rfl
  | a :: l => by
    rw [List.flatMap_cons, List.flatMap_cons, List.length_append, List.length_append, List.length_cons, List.length_cons, len_flat_cons l]; omega
theorem forest {ns : List DNode} (hns : ∀ n ∈ ns, chkN n = 0) : ∀ (h : Nat) (R : List Int), R ≠ [] → (∀ i ∈ R, ∃ d s, okN ns h i d s) → cN (R.flatMap (elemsAt ns h)).length h ≤ R.length ∧ sN (R.flatMap (elemsAt ns h)).length h ≤ (R.flatMap (ids ns h)).length := by
  intro h
  induction h with
  | zero =>
    intro R hR hok
    have h1 : (R.flatMap (elemsAt ns 0)).length ≤ 8 * R.length := len_flat_le fun i hi => by
      obtain ⟨d, s, k⟩ := hok i hi
      exact (leaf_of hns k.1 k.2.1).len
    have h2 : (R.flatMap (ids ns 0)).length = R.length := by
      have := len_flat_cons (f := fun i : Int => i.toNat) (g := fun _ => ([] : List Nat)) R
      rw [show R.flatMap (fun _ => ([] : List Nat)) = [] by rw [List.flatMap_eq_nil_iff]; exact fun _ _ => rfl] at this
      exact this
    have h3 : 0 < R.length := List.length_pos_iff.2 hR
    have := kOf_least h1 h3
    rw [h2, sN, cN]; exact ⟨this, this⟩
  | succ h ih =>
    intro R hR hok
    have hI : ∀ i ∈ R, Inner (nd ns i) := fun i hi => by
      obtain ⟨d, s, k⟩ := hok i hi
      exact (inner_of hns k.1 k.2.1).2
    have e1 : R.flatMap (elemsAt ns (h + 1)) = (R.flatMap fun i => (nd ns i).kids).flatMap (elemsAt ns h) := by
      rw [List.flatMap_assoc]; rfl
    have e2 : (R.flatMap (ids ns (h + 1))).length = R.length + ((R.flatMap fun i => (nd ns i).kids).flatMap (ids ns h)).length := by
      rw [List.flatMap_assoc]
      exact len_flat_cons (f := fun i : Int => i.toNat) (g := fun i => (nd ns i).kids.flatMap (ids ns h)) R
    have h3 : 0 < R.length := List.length_pos_iff.2 hR
    have hne : (R.flatMap fun i => (nd ns i).kids) ≠ [] := by
      intro e
      rw [List.flatMap_eq_nil_iff] at e
      cases R with
      | nil => exact hR rfl
      | cons i R =>
        have q1 := e i List.mem_cons_self
        have q2 := (hI i List.mem_cons_self).two
        rw [q1] at q2; simp at q2
    obtain ⟨k1, k2⟩ := ih (R.flatMap fun i => (nd ns i).kids) hne fun k hk => by
      obtain ⟨i, hi, hk⟩ := List.mem_flatMap.1 hk
      obtain ⟨d, s, q⟩ := hok i hi
      obtain ⟨j, hj⟩ := List.mem_iff_getElem?.1 hk
      exact ⟨_, _, (q.2.2.2 (k, j) (zip_mem hj)).1⟩
    have h8 : (R.flatMap fun i => (nd ns i).kids).length ≤ 8 * R.length := len_flat_le fun i hi => (hI i hi).eight
    have k3 : cN ((R.flatMap fun i => (nd ns i).kids).flatMap (elemsAt ns h)).length (h + 1) ≤ R.length := kOf_least (by omega) h3
    rw [e1, e2, sN]
    exact ⟨k3, by omega⟩
theorem sN_mono (n : Nat) {j : Nat} : ∀ {h : Nat}, j ≤ h → sN n j ≤ sN n h := by
  intro h
  induction h with
  | zero => 
    intro hj
    rw [show j = 0 by omega]; exact Nat.le_refl _
  | succ h ih =>
    intro hj
    by_cases e : j = h + 1
    · rw [e]; exact Nat.le_refl _
    · have := ih (by omega)
      rw [sN]; omega
theorem annalkeep_BuildFew_true (F : Nat) [Big F] (t : DTree) (ok : okTree t) : annalkeep_BuildFew F t = some true := by
  have hs := small_tree ok
  unfold annalkeep_BuildFew
  rw [begun_eq, Option.bind_some]
  rw [show (!true) = false from rfl, cond_false]
  unfold build_Pack
  by_cases hc : chkT F t = 0
  rotate_left
  · rw [tree_All_bad hs hc, Option.bind_some, Option.bind_some]
    dsimp only
    rw [bne0_true hc, cond_true, Option.bind_some]
    dsimp only
    rw [bne0_true hc, Bool.or_self, cond_true, same_none]; rfl
  obtain ⟨h, hg⟩ := chkT_zero.1 hc
  have h3200 := good_small hg
  obtain ⟨hsort, hall⟩ := elems_sorted hg.chk h t.root 0 topS hg.ok
  have hfor := forest hg.chk h [t.root] (by simp) fun i hi => ⟨0, topS, by rw [List.mem_singleton.1 hi]; exact hg.ok⟩
  rw [List.flatMap_singleton, List.flatMap_singleton, List.length_singleton] at hfor
  rw [tree_All_good hs hg, Option.bind_some, Option.bind_some]
  dsimp only
  rw [show ((0 : Int) != 0) = false from rfl, cond_false, build_Of_eq, Option.bind_some, Option.bind_some]
  dsimp only
  unfold ofR
  by_cases hl : 400 < (elemsAt t.nodes h t.root).length
  · rw [if_pos hl]
    dsimp only
    rw [show ((2 : Int) != 0) = true from rfl, Bool.false_or, cond_true, same_none]; rfl
  rw [if_neg hl]
  have hb : badR (elemsAt t.nodes h t.root) = none := badR_none.2 ⟨fun e he => (hall e he).2, hsort⟩
  rw [hb]
  obtain ⟨hp, hgp, hep, hnp, h1, hm⟩ := buildT_spec (l := elemsAt t.nodes h t.root) (by omega) (fun e he => (hall e he).2) hsort
  have hdep : hp ≤ h := by
    by_cases hle : hp ≤ h
    · exact hle
    · have := hm h (by omega); omega
  have hcount : (buildT (elemsAt t.nodes h t.root)).nodes.length ≤ usedR t.nodes := by
    have q1 := ids_used hg
    have q2 := sN_mono (elemsAt t.nodes h t.root).length hdep
    omega
  dsimp only
  rw [show (false || (0 : Int) != 0) = false from rfl, cond_false, tree_All_good (good_smalls hgp) hgp, Option.bind_some, used_loop t.nodes hg.len, Option.bind_some, tree_Depth_good (good_smalls hgp) hgp, Option.bind_some, tree_Depth_good hs hg, Option.bind_some]
  dsimp only
  rw [show ((0 : Int) == 0) = true from rfl, cond_true, cond_true, cond_true, hep, equal_refl (by omega), Option.bind_some, cond_true, decide_eq_true (show ((buildT (elemsAt t.nodes h t.root)).nodes.length : Int) ≤ ((usedR t.nodes : Nat) : Int) by omega), cond_true, decide_eq_true (by omega)]
  rfl
end Go.Proofs.Ytoaopihihccfkaa
