/- Plain Lean: what is new behind a time. Its conditions: none beyond what holds of every argument. -/
import Derived.Test.YtoaopihihccfkaaWFindNewF
import Derived.Test.YtoaopihihccfkaaPFindN
namespace Go.Proofs.Ytoaopihihccfkaa
set_option linter.unusedVariables false
set_option linter.unusedSimpArgs false
theorem annalkeep_FindNew_true (F : Nat) [Big F] (t : DTree) (a b : Int) (ok : okTree t) {P Q : Prop} (k1 : P) (k2 : Q) : annalkeep_FindNew F t a b = some true := by
  have hs := small_tree ok
  have hc1 : chkE (at1E 1 (ByteArray.mk #[97])) = 0 := at1_ok (by decide) (by decide) (by decide)
  obtain ⟨ho1, hp1⟩ := one_ok hc1
  obtain ⟨hg1, he1, hn1⟩ := one_leaf (l := [at1E 1 (ByteArray.mk #[97])]) (by simp) ho1 hp1
  unfold annalkeep_FindNew
  rw [at1_eq, Option.bind_some, of_eq (by simp) ho1 hp1, Option.bind_some, find_Since_good (good_smalls hg1) hg1, Option.bind_some, newF_zero hg1, he1]
  have hlook : lookR F (buildT [at1E 1 (ByteArray.mk #[97])]) 0 = 1 := by
    have hF := (inferInstance : Big F).le
    obtain ⟨m, rfl⟩ : ∃ m, F = m + 1 := ⟨F - 1, by omega⟩
    have h1 := great_all hg1.chk 0 (buildT [at1E 1 (ByteArray.mk #[97])]).root 0 topS hg1.ok (at1E 1 (ByteArray.mk #[97])) (by rw [he1]; simp)
    have h2 : lastE (at1E 1 (ByteArray.mk #[97])) = 1 := rfl
    unfold lookR
    rw [if_pos (by omega), lookF, (leaf_of hg1.chk hg1.ok.1 hg1.ok.2.1).kids]; rfl
  rw [hlook]
  dsimp only
  rw [show ((0 : Int) != 0 || ((([at1E 1 (ByteArray.mk #[97])] : List DElem).length : Int) != 1 || ((1 : Nat) : Int) != 1)) = false from rfl, cond_false]
  by_cases hc : chkT F t = 0
  rotate_left
  · rw [tree_All_bad hs hc, Option.bind_some]
    dsimp only
    rw [bne0_true hc, cond_true]
  obtain ⟨h, hg⟩ := chkT_zero.1 hc
  have hlen := good_small hg
  have hgm := great_max hg
  rw [tree_All_good hs hg, Option.bind_some, used_loop t.nodes hg.len]
  rw [show (((elemsAt t.nodes h t.root, (0 : Int)).2 != 0)) = false from rfl, cond_false, Option.bind_some, find_Since_good hs hg, Option.bind_some, find_Since_good hs hg, Option.bind_some, find_Since_good hs hg, Option.bind_some, find_Since_good hs hg, Option.bind_some, newF_zero hg]
  have hnone : (elemsAt t.nodes h t.root).filter (fun e => decide ((2147483647 : Int) < lastE e)) = [] := by
    rw [List.filter_eq_nil_iff]
    intro e he
    have := great_all hg.chk h t.root 0 topS hg.ok e he
    rw [decide_eq_true_eq]; omega
  have hl0 : lookR F t 2147483647 = 0 := by unfold lookR; rw [if_neg (by omega)]
  rw [hnone, hl0]
  generalize hlo : (if b < a then b else a) = lo
  generalize hhi : (if a < b then b else a) = hi
  have hle : lo ≤ hi := by rw [← hlo, ← hhi]; split <;> split <;> omega
  have u1 := lookR_used (F := F) hg 0
  have u2 := lookR_used (F := F) hg hi
  have u3 := lookR_mono (F := F) (t := t) hle
  dsimp only
  rw [show ((0 : Int) != 0) = false from rfl, cond_false, cond_false, cond_false, cond_false, equal_refl (by omega), Option.bind_some, show (!true) = false from rfl, cond_false, decide_eq_false (by omega), cond_false, show (((([] : List DElem).length : Int) != 0)) = false from rfl, cond_false, show (((0 : Nat) : Int) != 0) = false from rfl, cond_false, decide_eq_false (by omega), cond_false, decide_eq_false (by omega), Option.bind_some, cond_false]
  have hsub : ∀ e ∈ (elemsAt t.nodes h t.root).filter (fun e => decide (hi < lastE e)), e ∈ (elemsAt t.nodes h t.root).filter (fun e => decide (lo < lastE e)) ∧ hi < lastE e := fun e he => by
    obtain ⟨h1, h2⟩ := List.mem_filter.1 he
    have h2 := of_decide_eq_true h2
    exact ⟨List.mem_filter.2 ⟨h1, decide_eq_true (by omega)⟩, h2⟩
  have hl1 := List.length_filter_le (fun e => decide (hi < lastE e)) (elemsAt t.nodes h t.root)
  have hl2 := List.length_filter_le (fun e => decide (lo < lastE e)) (elemsAt t.nodes h t.root)
  generalize (elemsAt t.nodes h t.root).filter (fun e => decide (hi < lastE e)) = y at *
  generalize (elemsAt t.nodes h t.root).filter (fun e => decide (lo < lastE e)) = x at *
  rw [loop_run (fun k => (k : Int)) y.length (r := Sum.inl ()) (s := (0 : Int)) rfl (by omega) ?hs ?he]
  · rfl
  case hs =>
    intro k hk
    have hky : y[k]? = some y[k] := List.getElem?_eq_getElem hk
    obtain ⟨m1, m2⟩ := hsub _ (List.mem_of_getElem? hky)
    rw [decide_eq_true (by omega), cond_true, idx_nat', hky, Option.bind_some, containsElem x y[k] (by omega), Option.bind_some, decide_eq_true m1, show (!true) = false from rfl, cond_false, elem_Last_eq, Option.bind_some, decide_eq_false (by omega), Option.bind_some, cond_false, w64 (by omega) (by omega)]
    rfl
  case he => rw [decide_eq_false (by omega), cond_false]
end Go.Proofs.Ytoaopihihccfkaa
