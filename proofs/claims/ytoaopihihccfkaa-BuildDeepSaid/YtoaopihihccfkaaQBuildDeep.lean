/- Plain Lean: a tree that is made at once is as deep as eights let it be. Its conditions: none beyond what holds of every argument. -/
import Derived.Test.YtoaopihihccfkaaWBuildDeepF
import Derived.Test.YtoaopihihccfkaaPTreeL
namespace Go.Proofs.Ytoaopihihccfkaa
set_option linter.unusedVariables false
set_option linter.unusedSimpArgs false
theorem pow8_le {k n : Nat} (h : 8 ^ (k + 1) < n) (hn : n ≤ 400) : 8 ^ (k + 2) ≤ 3200 ∧ k < 400 := by
  have h1 : k + 1 < 8 ^ (k + 1) := Nat.lt_pow_self (by decide)
  have h2 : 8 ^ (k + 2) = 8 ^ (k + 1) * 8 := Nat.pow_succ 8 (k + 1)
  omega
theorem annalkeep_BuildDeep_true (F : Nat) [Big F] (l : List DElem) {P : Prop} (k0 : P) : annalkeep_BuildDeep F l = some true := by
  have hc : chkE (at1E 1 (ByteArray.mk #[97])) = 0 := at1_ok (by decide) (by decide) (by decide)
  obtain ⟨ho1, hp1⟩ := one_ok hc
  obtain ⟨hg1, he1, hn1⟩ := one_leaf (l := [at1E 1 (ByteArray.mk #[97])]) (by simp) ho1 hp1
  unfold annalkeep_BuildDeep
  rw [at1_eq, Option.bind_some, of_eq (by simp) ho1 hp1, Option.bind_some, tree_Depth_good (good_smalls hg1) hg1, Option.bind_some]
  rw [show ((((0 : Nat) : Int) + 1, (0 : Int)).1 != 1 || (((0 : Nat) : Int) + 1, (0 : Int)).2 != 0) = false from rfl, cond_false, build_Of_eq, Option.bind_some]
  unfold ofR
  by_cases hl : 400 < l.length
  · rw [if_pos hl]
    dsimp only
    rw [show ((2 : Int) != 0) = true from rfl, cond_true, same_none]; rfl
  rw [if_neg hl]
  cases hb : badR l with
  | some e =>
    dsimp only
    rw [bne0_true (badR_ne hb), cond_true, same_none]; rfl
  | none =>
    obtain ⟨ho, hp⟩ := badR_none.1 hb
    obtain ⟨h, hg, he, hn, h1, hm⟩ := buildT_spec (by omega) ho hp
    have hm' : ∀ k, k < h → 8 ^ (k + 1) < l.length := fun k hk => by
      have q1 := hm k hk
      have q2 := @cN_iff l.length k 1 (by decide)
      omega
    have hend : l.length ≤ 8 ^ (h + 1) := by
      have q2 := @cN_iff l.length h 1 (by decide)
      omega
    dsimp only
    rw [show ((0 : Int) != 0) = false from rfl, cond_false, tree_Depth_good (good_smalls hg) hg, Option.bind_some]
    have h4 := good_fuel hg
    rw [loop_run (fun k => (((k : Int) + 1, ((8 ^ (k + 1) : Nat) : Int)) : Int × Int)) h (r := (h : Int) + 1) (s := ((1 : Int), (8 : Int))) rfl (by omega) ?hs ?he]
    case hs =>
      intro k hk
      have q1 := hm' k hk
      obtain ⟨q2, q3⟩ := pow8_le q1 (by omega)
      have q4 : 8 ^ (k + 2) = 8 ^ (k + 1) * 8 := Nat.pow_succ 8 (k + 1)
      dsimp only
      rw [show decide (((8 ^ (k + 1) : Nat) : Int) < (l.length : Int)) = true from decide_eq_true (by omega), cond_true, w64 (by omega) (by omega), w64 (by omega) (by omega), show ((8 ^ (k + 1) : Nat) : Int) * 8 = ((8 ^ (k + 1 + 1) : Nat) : Int) by rw [Nat.pow_succ 8 (k + 1)]; push_cast; rfl]
      rfl
    case he =>
      dsimp only
      rw [show decide (((8 ^ (h + 1) : Nat) : Int) < (l.length : Int)) = false from decide_eq_false (by omega), cond_false]
    rw [Option.bind_some]; simp
end Go.Proofs.Ytoaopihihccfkaa
