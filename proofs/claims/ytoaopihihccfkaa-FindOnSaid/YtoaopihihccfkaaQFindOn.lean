/- Plain Lean: some records, and then those behind, are all. Its conditions: none beyond what holds of every argument. -/
import Derived.Test.YtoaopihihccfkaaWFindOnF
import Derived.Test.YtoaopihihccfkaaPTreeL
import Derived.Test.YtoaopihihccfkaaPFindF
import Derived.Test.YtoaopihihccfkaaPFindS
namespace Go.Proofs.Ytoaopihihccfkaa
set_option linter.unusedVariables false
set_option linter.unusedSimpArgs false
/-- What stands behind a record of a sorted row. -/
theorem behind {l : List DElem} (hp : l.Pairwise SpO) {k : Nat} {e : DElem} (hk : l[k]? = some e) : l.filter (geB ⟨e.key, e.made + 1⟩) = l.drop (k + 1) ∧ l.filter (geB (spotE e)) = l.drop k := by
  obtain ⟨hkl, rfl⟩ := List.getElem?_eq_some_iff.1 hk
  have key : ∀ (p : DElem → Bool) (j : Nat), (∀ i x, i < j → l[i]? = some x → p x = false) → (∀ i x, j ≤ i → l[i]? = some x → p x = true) → l.filter p = l.drop j := fun p j h1 h2 => by
    conv => lhs; rw [← List.take_append_drop j l, List.filter_append]
    rw [List.filter_eq_nil_iff.2, List.nil_append, List.filter_eq_self.2]
    · intro x hx
      obtain ⟨i, hi⟩ := List.mem_iff_getElem?.1 hx
      rw [List.getElem?_drop] at hi
      exact h2 _ x (by omega) hi
    · intro x hx
      obtain ⟨i, hi⟩ := List.mem_iff_getElem?.1 hx
      rw [List.getElem?_take] at hi
      split at hi
      · rw [h1 i x (by assumption) hi]; simp
      · cases hi
  have hlt : ∀ i x, i < k → l[i]? = some x → cmpS (spotE x) (spotE l[k]) < 0 := fun i x hi hx => pairwise_at hp hi hx hk
  have hgt : ∀ i x, k < i → l[i]? = some x → cmpS (spotE l[k]) (spotE x) < 0 := fun i x hi hx => pairwise_at hp hi hk hx
  have hnext : cmpS (spotE l[k]) ⟨l[k].key, l[k].made + 1⟩ < 0 := cmpS_lt.2 (.inr ⟨rfl, by show l[k].made < l[k].made + 1; omega⟩)
  constructor
  · refine key _ (k + 1) (fun i x hi hx => decide_eq_false ?_) (fun i x hi hx => decide_eq_true ?_)
    · by_cases e : i = k
      · subst e
        rw [hk] at hx
        obtain rfl := Option.some.inj hx
        omega
      · have := cmp_cmpS.lt_trans (hlt i x (by omega) hx) hnext
        omega
    · have h1 := hgt i x (by omega) hx
      have h2 := cmp_cmpS.neg (spotE x) ⟨l[k].key, l[k].made + 1⟩
      suffices h : cmpS ⟨l[k].key, l[k].made + 1⟩ (spotE x) ≤ 0 by omega
      rcases cmpS_lt.1 h1 with h3 | ⟨h3, h4⟩
      · have : cmpS ⟨l[k].key, l[k].made + 1⟩ (spotE x) < 0 := cmpS_lt.2 (.inl h3)
        omega
      · by_cases h5 : l[k].made + 1 = x.made
        · have h6 : (⟨l[k].key, l[k].made + 1⟩ : DSpot) = spotE x := by
            unfold spotE at h3 ⊢
            dsimp only at h3
            rw [h3, h5]
          rw [h6, cmp_cmpS.refl]; exact Int.le_refl _
        · have : cmpS ⟨l[k].key, l[k].made + 1⟩ (spotE x) < 0 := cmpS_lt.2 (.inr ⟨h3, by
            unfold spotE at h4 ⊢
            dsimp only at h4 ⊢
            omega⟩)
          omega
  · refine key _ k (fun i x hi hx => decide_eq_false ?_) (fun i x hi hx => decide_eq_true ?_)
    · have := hlt i x hi hx; omega
    · by_cases e : i = k
      · subst e
        rw [hk] at hx
        obtain rfl := Option.some.inj hx
        rw [cmp_cmpS.refl]; exact Int.le_refl _
      · have h1 := hgt i x (by omega) hx
        have h2 := cmp_cmpS.neg (spotE x) (spotE l[k])
        omega
theorem from_nought {l : List DElem} (ho : ∀ e ∈ l, chkE e = 0) : l.filter (geB ⟨⟨0, 0, 0⟩, 0⟩) = l := by
  rw [List.filter_eq_self]
  intro e he
  obtain ⟨hk, h1, _⟩ := chkE_ok (ho e he)
  refine decide_eq_true ?_
  have h2 := cmp_cmpS.neg (spotE e) ⟨⟨0, 0, 0⟩, 0⟩
  suffices h : cmpS ⟨⟨0, 0, 0⟩, 0⟩ (spotE e) ≤ 0 by omega
  have : ¬ 0 < cmpS ⟨⟨0, 0, 0⟩, 0⟩ (spotE e) := fun h => by
    have h3 : cmpS (spotE e) ⟨⟨0, 0, 0⟩, 0⟩ < 0 := by omega
    unfold chkK at hk
    split at hk
    · cases hk
    rename_i hk
    rcases cmpS_lt.1 h3 with h4 | ⟨h4, h5⟩
    · rw [cmpK_def] at h4
      unfold ord spotE at h4
      dsimp only at h4
      repeat' split at h4
      all_goals omega
    · unfold spotE at h5
      dsimp only at h5
      omega
  omega
theorem annalkeep_FindOn_true (F : Nat) [Big F] (t : DTree) (n : Int) (ok : okTree t) {P : Prop} (k1 : P) : annalkeep_FindOn F t n = some true := by
  have hs := small_tree ok
  have hca : chkE (at1E 1 (ByteArray.mk #[97])) = 0 := at1_ok (by decide) (by decide) (by decide)
  have hcb : chkE (at1E 2 (ByteArray.mk #[98])) = 0 := at1_ok (by decide) (by decide) (by decide)
  have ho1 : ∀ e ∈ [at1E 1 (ByteArray.mk #[97]), at1E 2 (ByteArray.mk #[98])], chkE e = 0 := fun e he => by
    rcases List.mem_cons.1 he with rfl | he
    · exact hca
    · rw [List.mem_singleton.1 he]; exact hcb
  have hab : cmpS (spotE (at1E 1 (ByteArray.mk #[97]))) (spotE (at1E 2 (ByteArray.mk #[98]))) < 0 := by decide
  have hp1 : [at1E 1 (ByteArray.mk #[97]), at1E 2 (ByteArray.mk #[98])].Pairwise SpO := by
    rw [List.pairwise_cons]
    exact ⟨fun e he => by rw [List.mem_singleton.1 he]; exact hab, List.pairwise_singleton _ _⟩
  obtain ⟨hg1, he1, hn1⟩ := one_leaf (l := [at1E 1 (ByteArray.mk #[97]), at1E 2 (ByteArray.mk #[98])]) (by simp) ho1 hp1
  unfold annalkeep_FindOn
  rw [at1_eq, Option.bind_some, at1_eq, Option.bind_some, of_eq (by simp) ho1 hp1, Option.bind_some, show (9 : Int) = ((9 : Nat) : Int) from rfl, find_From_good (good_smalls hg1) hg1, he1, Option.bind_some]
  have hfil : ([at1E 1 (ByteArray.mk #[97]), at1E 2 (ByteArray.mk #[98])].filter (geB ⟨⟨0, 0, 2⟩, 0⟩)).take 9 = [at1E 2 (ByteArray.mk #[98])] := by
    have h1 : geB ⟨⟨0, 0, 2⟩, 0⟩ (at1E 1 (ByteArray.mk #[97])) = false := by decide
    have h2 : geB ⟨⟨0, 0, 2⟩, 0⟩ (at1E 2 (ByteArray.mk #[98])) = true := by decide
    rw [List.filter_cons_of_neg (by rw [h1]; simp), List.filter_cons_of_pos h2]; rfl
  rw [hfil]
  dsimp only
  rw [show ((0 : Int) != 0) = false from rfl, cond_false, Option.bind_some, equal_refl (by simp), Option.bind_some, Option.bind_some, show (!true) = false from rfl, cond_false]
  obtain ⟨r, hr, hr20⟩ := within_nat (n := n) (m := 20) (by decide) (by decide)
  have hw : IntKind.i64.wrap ((r : Int) + 1) = ((r + 1 : Nat) : Int) := by rw [w64 (by omega) (by omega)]; rfl
  by_cases hc : chkT F t = 0
  rotate_left
  · rw [tree_All_bad hs hc, Option.bind_some, hr, Option.bind_some]
    dsimp only
    rw [hw]
    rw [loop_run (fun _ => (([] : List DElem), (0 : Int), (0 : Int), (0 : Int), (0 : Int), (0 : Int))) 0 (r := Sum.inl []) rfl (by omega) (fun k hk => absurd hk (Nat.not_lt_zero k)) ?he]
    case he =>
      dsimp only
      rw [show decide ((0 : Int) < IntKind.i64.wrap ((([] : List DElem).length : Int) + 1)) = true from rfl, cond_true, find_From_bad hs hc, Option.bind_some]
      dsimp only
      rw [show (chkT F t != chkT F t) = false by simp, cond_false, grow_ok (by simp) (by simp), Option.bind_some, show decide ((([] : List DElem).length : Int) < ((r + 1 : Nat) : Int)) = true from decide_eq_true (by show (0 : Int) < _; omega), cond_true]
      rfl
    rw [Option.bind_some]
    dsimp only
    rw [equal_refl (by simp)]; rfl
  obtain ⟨h, hg⟩ := chkT_zero.1 hc
  have hlen := good_small hg
  obtain ⟨hsort, hall⟩ := elems_sorted hg.chk h t.root 0 topS hg.ok
  rw [tree_All_good hs hg, Option.bind_some, hr, Option.bind_some]
  dsimp only
  rw [hw]
  have hfrom : ∀ s, find_From F t s ((r + 1 : Nat) : Int) = some (((elemsAt t.nodes h t.root).filter (geB s)).take (r + 1), 0) := fun s => find_From_good hs hg s (r + 1)
  have hspot : ∀ s, find_Spot F t s = some (spotR ((elemsAt t.nodes h t.root).filter (geB s)) s) := fun s => find_Spot_good hs hg s
  have hnought := from_nought (l := elemsAt t.nodes h t.root) fun e he => (hall e he).2
  have hmade : ∀ e ∈ elemsAt t.nodes h t.root, 0 ≤ e.made ∧ e.made ≤ 2147483647 := fun e he => by
    obtain ⟨_, h1, h2, _⟩ := chkE_ok (hall e he).2
    omega
  generalize elemsAt t.nodes h t.root = l at *
  have hit : ∀ {ρ : Type} {f : List DElem × Int × Int × Int × Int × Int → Option ((List DElem × Int × Int × Int × Int × Int) ⊕ (List DElem ⊕ ρ))},
      (∀ (out : List DElem) (s : DSpot) (j c : Nat), out = l.take j → l.filter (geB s) = l.drop j → j ≤ l.length → c ≤ j → f (out, s.key.pfs, s.key.obj, s.key.off, s.made, (c : Int)) =
        if h : j + r < l.length then some (.inl (l.take (j + r + 1), l[j + r].key.pfs, l[j + r].key.obj, l[j + r].key.off, l[j + r].made + 1, ((c + 1 : Nat) : Int))) else some (.inr (.inl l))) →
      iter f F ([], 0, 0, 0, 0, 0) = some (.inl l) := by
    intro ρ f hf
    have := loop_rec (F := F) (f := f) (K := some) (fun m x q => q = Sum.inl l ∧ ∃ (s : DSpot) (j c : Nat), x = (l.take j, s.key.pfs, s.key.obj, s.key.off, s.made, (c : Int)) ∧ l.filter (geB s) = l.drop j ∧ j ≤ l.length ∧ c ≤ j ∧ m + j = l.length) ?_ (m := l.length) (s := ([], 0, 0, 0, 0, 0)) (q := Sum.inl l) (by omega) ⟨rfl, ⟨⟨0, 0, 0⟩, 0⟩, 0, 0, rfl, by rw [hnought]; rfl, Nat.zero_le _, Nat.le_refl _, rfl⟩
    · simpa using this
    · rintro m x q ⟨rfl, s, j, c, rfl, hfil, hj, hcj, hm⟩
      rw [hf _ s j c rfl hfil hj hcj]
      by_cases hjl : j + r < l.length
      · right
        rw [dif_pos hjl]
        have hk : l[j + r]? = some l[j + r] := List.getElem?_eq_getElem hjl
        exact ⟨l.length - (j + r + 1), _, by omega, rfl, rfl, ⟨l[j + r].key, l[j + r].made + 1⟩, j + r + 1, c + 1, rfl, (behind hsort hk).1, by omega, by omega, by omega⟩
      · left
        rw [dif_neg hjl]
        exact ⟨_, rfl, rfl⟩
  rw [hit ?step]
  case step =>
    intro out s j c ho hfil hj hcj
    subst ho
    dsimp only
    have hl1 : IntKind.i64.wrap ((l.length : Int) + 1) = (l.length : Int) + 1 := w64 (by omega) (by omega)
    rw [hl1, show decide ((c : Int) < (l.length : Int) + 1) = true from decide_eq_true (by omega), cond_true, hfrom, hfil, Option.bind_some]
    dsimp only
    rw [show ((0 : Int) != 0) = false from rfl, cond_false, grow_ok (by rw [List.length_take, List.length_take, List.length_drop]; omega) (by rw [List.length_take, List.length_take, List.length_drop]; omega), Option.bind_some, ← List.take_add, List.length_take, List.length_drop]
    by_cases hjl : j + r < l.length
    · rw [dif_pos hjl]
      have hk : l[j + r]? = some l[j + r] := List.getElem?_eq_getElem hjl
      have hmn : min (r + 1) (l.length - j) = r + 1 := by omega
      have hlast : idx ((l.drop j).take (r + 1)) (IntKind.i64.wrap (((r + 1 : Nat) : Int) - 1)) = some l[j + r] := by
        rw [w64 (by omega) (by omega), show ((r + 1 : Nat) : Int) - 1 = (r : Int) by omega, idx_nat', List.getElem?_take, if_pos (by omega), List.getElem?_drop, hk]
      rw [hmn, show decide (((r + 1 : Nat) : Int) < ((r + 1 : Nat) : Int)) = false from decide_eq_false (by omega), cond_false, hlast, Option.bind_some, elem_Spot_eq, Option.bind_some, hspot]
      have hsr : spotR (l.filter (geB (spotE l[j + r]))) (spotE l[j + r]) = (l[j + r], 0) := by
        rw [(behind hsort hk).2, List.drop_eq_getElem_cons hjl]
        unfold spotR
        dsimp only [List.head?]
        rw [if_pos rfl]
      have hm := hmade _ (List.mem_of_getElem? hk)
      rw [Option.bind_some, hsr]
      dsimp only
      rw [show ((0 : Int) != 0) = false from rfl, cond_false, Option.bind_some, Option.bind_some, show (!(l[j + r] == l[j + r])) = false by simp, cond_false]
      rw [show (spotE l[j + r]).made = l[j + r].made from rfl, w64 (n := l[j + r].made + 1) (by omega) (by omega), w64 (by omega) (by omega)]
      rfl
    · rw [dif_neg hjl, show decide (((min (r + 1) (l.length - j) : Nat) : Int) < ((r + 1 : Nat) : Int)) = true from decide_eq_true (by omega), cond_true, List.take_of_length_le (by omega)]
  rw [Option.bind_some]
  dsimp only
  rw [equal_refl (by omega)]; rfl
end Go.Proofs.Ytoaopihihccfkaa
