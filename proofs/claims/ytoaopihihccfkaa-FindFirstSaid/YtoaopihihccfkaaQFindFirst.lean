/- Plain Lean: the first record from a spot on is that of the spot, if there is one. Its conditions: none beyond what holds of every argument. -/
import Derived.Test.YtoaopihihccfkaaWFindFirstF
import Derived.Test.YtoaopihihccfkaaPTreeL
import Derived.Test.YtoaopihihccfkaaPFindF
import Derived.Test.YtoaopihihccfkaaPFindS
namespace Go.Proofs.Ytoaopihihccfkaa
set_option linter.unusedVariables false
set_option linter.unusedSimpArgs false
theorem annalkeep_FindFirst_true (F : Nat) [Big F] (t : DTree) (s : DSpot) (ok : okTree t) {P : Prop} (k1 : P) : annalkeep_FindFirst F t s = some true := by
  have hs := small_tree ok
  have hc1 : chkE (at1E 1 (ByteArray.mk #[97])) = 0 := at1_ok (by decide) (by decide) (by decide)
  obtain ⟨ho1, hp1⟩ := one_ok hc1
  obtain ⟨hg1, he1, hn1⟩ := one_leaf (l := [at1E 1 (ByteArray.mk #[97])]) (by simp) ho1 hp1
  unfold annalkeep_FindFirst
  rw [at1_eq, Option.bind_some, of_eq (by simp) ho1 hp1, Option.bind_some, show (5 : Int) = ((5 : Nat) : Int) from rfl, find_From_good (good_smalls hg1) hg1, he1, Option.bind_some]
  have hfil : ([at1E 1 (ByteArray.mk #[97])].filter (geB ⟨⟨0, 0, 0⟩, 0⟩)) = [at1E 1 (ByteArray.mk #[97])] := rfl
  rw [hfil]
  dsimp only
  rw [show ((0 : Int) != 0 || ((([at1E 1 (ByteArray.mk #[97])].take 5).length : Int) != 1)) = false from rfl, cond_false]
  by_cases hc : chkT F t = 0
  rotate_left
  · rw [find_Spot_bad hs hc, Option.bind_some, find_From_bad hs hc, Option.bind_some, tree_Check_eq t hs, Option.bind_some, bne0_true hc, cond_true]
    dsimp only
    rw [show (zeroE == (⟨⟨0, 0, 0⟩, 0, 0, ByteArray.mk #[]⟩ : DElem)) = true from beq_iff_eq.2 rfl]
    simp
  obtain ⟨h, hg⟩ := chkT_zero.1 hc
  rw [find_Spot_good hs hg, Option.bind_some, show (1 : Int) = ((1 : Nat) : Int) from rfl, find_From_good hs hg, Option.bind_some, tree_Check_eq t hs, Option.bind_some, bne0_false hc, cond_false]
  have hge : ∀ e ∈ (elemsAt t.nodes h t.root).filter (geB s), 0 ≤ cmpS (spotE e) s := fun e he => by
    have := (List.mem_filter.1 he).2
    unfold geB at this
    exact of_decide_eq_true this
  generalize (elemsAt t.nodes h t.root).filter (geB s) = l at *
  unfold spotR
  cases l with
  | nil => rfl
  | cons e l =>
    have hge := hge e List.mem_cons_self
    dsimp only [List.head?, List.take]
    by_cases he : spotE e = s
    · rw [if_pos he]
      dsimp only
      rw [show ((0 : Int) != 0) = false from rfl, cond_false, show ((0 : Int) == 0) = true from rfl, cond_true, show ((([e].length : Nat) : Int) == ((1 : Nat) : Int)) = true from rfl, cond_true, show idx [e] 0 = some e from rfl, Option.bind_some, beq_self_eq_true, cond_true, elem_Spot_eq, Option.bind_some, he, beq_self_eq_true]
      rfl
    · rw [if_neg he]
      dsimp only
      have hlt : cmpS s (spotE e) < 0 := by
        have h1 := cmp_cmpS.neg (spotE e) s
        have h2 : cmpS (spotE e) s ≠ 0 := fun h0 => he ((cmp_cmpS.zero _ _).1 h0)
        omega
      rw [show ((4 : Int) != 0) = true from rfl, cond_true, show ((4 : Int) == 4) = true from rfl, cond_true, show ((0 : Int) == 0) = true from rfl, cond_true, show ((([e].length : Nat) : Int) == 0) = false from rfl, cond_false, show idx [e] 0 = some e from rfl, Option.bind_some, elem_Spot_eq, Option.bind_some, key_CmpSpot_eq, Option.bind_some, decide_eq_true hlt]
      rfl
end Go.Proofs.Ytoaopihihccfkaa
