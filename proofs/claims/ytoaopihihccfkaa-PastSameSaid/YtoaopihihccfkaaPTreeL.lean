/- Plain Lean: what laws about trees share. Its conditions: none. -/
import Derived.Test.YtoaopihihccfkaaPackF
import Derived.Test.YtoaopihihccfkaaPBuild
import Derived.Test.YtoaopihihccfkaaPEq
namespace Go.Proofs.Ytoaopihihccfkaa
set_option linter.unusedVariables false
set_option linter.unusedSimpArgs false
variable {F : Nat} [Big F]
theorem within_nat {n m : Int} (hm : 0 < m) (hn : m ≤ 1000000) : ∃ r : Nat, annalkeep_Within n m = some (r : Int) ∧ (r : Int) < m := by
  unfold annalkeep_Within toDiv
  have e1 : IntKind.u64.wrap m = m := by simp [IntKind.wrap, IntKind.bits, IntKind.signed]; omega
  have e2 : 0 ≤ IntKind.u64.wrap n := by simp [IntKind.wrap, IntKind.bits, IntKind.signed]; omega
  rw [e1, if_neg (by omega), Option.bind_some]
  have h3 := Int.tmod_nonneg m e2
  have h4 := Int.tmod_lt_of_pos (IntKind.u64.wrap n) hm
  refine ⟨((IntKind.u64.wrap n).tmod m).toNat, ?_, by omega⟩
  rw [w64 (by omega) (by omega)]
  congr 1; omega

/-! ### Trees made at once -/
theorem build_ok {l : List DElem} (h : ¬ 400 < l.length) (hb : badR l = none) : ofR l = (buildT l, 0) := by
  unfold ofR; rw [if_neg h, hb]
theorem of_eq {l : List DElem} (hl : l.length ≤ 400) (ho : ∀ e ∈ l, chkE e = 0) (hp : l.Pairwise SpO) : annalkeep_of F l = some (buildT l) := by
  unfold annalkeep_of
  rw [build_Of_eq, Option.bind_some, build_ok (by omega) (badR_none.2 ⟨ho, hp⟩)]
theorem good_smalls {t : DTree} {h : Nat} (hg : Good t h) : ∀ n ∈ t.nodes, Small n := fun n hn => small_chk (hg.chk n hn)
/-- Few records: one leaf. -/
theorem one_leaf {l : List DElem} (hl : l.length ≤ 8) (ho : ∀ e ∈ l, chkE e = 0) (hp : l.Pairwise SpO) : Good (buildT l) 0 ∧ elemsAt (buildT l).nodes 0 (buildT l).root = l ∧ (buildT l).nodes.length = 1 := by
  obtain ⟨h, hg, he, hn, h1, hm⟩ := buildT_spec (by omega) ho hp
  have h0 : h = 0 := by
    cases h with
    | zero => rfl
    | succ h => have := hm 0 (by omega); rw [cN, kOf_one hl] at this; omega
  subst h0
  exact ⟨hg, he, by rw [hn, sN, cN, kOf_one hl]⟩
def at1E (off : Int) (v : ByteArray) : DElem := ⟨⟨0, 0, off⟩, 1, 0, v⟩
theorem at1_eq (off : Int) (v : ByteArray) : annalkeep_at1 off v = some (at1E off v) := rfl
theorem at1_ok {off : Int} {v : ByteArray} (h0 : 0 ≤ off) (h1 : off ≤ 1000) (hv : v.size ≤ 40) : chkE (at1E off v) = 0 := by
  unfold chkE at1E chkK
  dsimp only
  rw [if_neg (by rw [if_neg (by omega)]; simp), if_neg (by omega), if_neg (by omega)]
theorem one_ok {e : DElem} (h : chkE e = 0) : (∀ x ∈ [e], chkE x = 0) ∧ [e].Pairwise SpO := ⟨fun x hx => by rw [List.mem_singleton.1 hx]; exact h, List.pairwise_singleton _ _⟩
theorem equal_refl {l : List DElem} (h : l.length ≤ 9223372036854775807) : slices_Equal_Elem F l l = some true := by rw [eqElem l l h]; simp
/-! ### How many nodes are in use -/
def usedR (ns : List DNode) : Nat := ((List.range ns.length).filter fun (i : Nat) => decide ((nd ns (i : Int)).kind ≠ 0)).length
end Go.Proofs.Ytoaopihihccfkaa
