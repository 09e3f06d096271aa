/- Plain Lean: what laws about trees share. Its conditions: none. -/
import Derived.Test.YtoaopihihccfkaaPackF
import Derived.Test.YtoaopihihccfkaaPBuild
import Derived.Test.YtoaopihihccfkaaPEq
namespace Go.Proofs.Ytoaopihihccfkaa
set_option linter.unusedVariables false
set_option linter.unusedSimpArgs false
variable {F : Nat} [Big F]
theorem within_nat {n m : Int} (hm : 0 < m) (hn : m ≤ 1000000) : ∃ r : Nat, annalkeep_Within n m = some (r : Int) ∧ (r : Int) < m := by
  unfold annalkeep_Within toDiv
  have e1 : IntKind.u64.wrap m = m := by simp [IntKind.wrap, IntKind.bits, IntKind.signed]; omega
  have e2 : 0 ≤ IntKind.u64.wrap n := by simp [IntKind.wrap, IntKind.bits, IntKind.signed]; omega
  rw [e1, if_neg (by omega), Option.bind_some]
  have h3 := Int.tmod_nonneg m e2
  have h4 := Int.tmod_lt_of_pos (IntKind.u64.wrap n) hm
  refine ⟨((IntKind.u64.wrap n).tmod m).toNat, ?_, by omega⟩
  rw [w64 (by omega) (by omega)]
  congr 1; omega

/-! ### Trees made at once -/
theorem kOf_iff {n m : Nat} (hm : 0 < m) : kOf n ≤ m ↔ n ≤ 8 * m :=
  ⟨fun h => Nat.le_trans (kOf_up n) (Nat.mul_le_mul_left _ h), fun h => kOf_least h hm⟩
theorem cN_iff {n : Nat} : ∀ (h : Nat) {m : Nat}, 0 < m → (cN n h ≤ m ↔ n ≤ 8 ^ (h + 1) * m) := by
  intro h
  induction h with
  | zero => intro m hm; rw [cN, kOf_iff hm]
  | succ h ih =>
    intro m hm
    rw [cN, kOf_iff hm, ih (by omega), Nat.pow_succ 8 (h + 1), Nat.mul_assoc]
theorem build_ok {l : List DElem} (h : ¬ 400 < l.length) (hb : badR l = none) : ofR l = (buildT l, 0) := by
  unfold ofR; rw [if_neg h, hb]
theorem of_eq {l : List DElem} (hl : l.length ≤ 400) (ho : ∀ e ∈ l, chkE e = 0) (hp : l.Pairwise SpO) : annalkeep_of F l = some (buildT l) := by
  unfold annalkeep_of
  rw [build_Of_eq, Option.bind_some, build_ok (by omega) (badR_none.2 ⟨ho, hp⟩)]
theorem good_smalls {t : DTree} {h : Nat} (hg : Good t h) : ∀ n ∈ t.nodes, Small n := fun n hn => small_chk (hg.chk n hn)
/-- Few records: one leaf. -/
theorem one_leaf {l : List DElem} (hl : l.length ≤ 8) (ho : ∀ e ∈ l, chkE e = 0) (hp : l.Pairwise SpO) : Good (buildT l) 0 ∧ elemsAt (buildT l).nodes 0 (buildT l).root = l ∧ (buildT l).nodes.length = 1 := by
  obtain ⟨h, hg, he, hn, h1, hm⟩ := buildT_spec (by omega) ho hp
  have h0 : h = 0 := by
    cases h with
    | zero => rfl
    | succ h => have := hm 0 (by omega); rw [cN, kOf_one hl] at this; omega
  subst h0
  exact ⟨hg, he, by rw [hn, sN, cN, kOf_one hl]⟩
def at1E (off : Int) (v : ByteArray) : DElem := ⟨⟨0, 0, off⟩, 1, 0, v⟩
theorem at1_eq (off : Int) (v : ByteArray) : annalkeep_at1 off v = some (at1E off v) := rfl
theorem at1_ok {off : Int} {v : ByteArray} (h0 : 0 ≤ off) (h1 : off ≤ 1000) (hv : v.size ≤ 40) : chkE (at1E off v) = 0 := by
  unfold chkE at1E chkK
  dsimp only
  rw [if_neg (by rw [if_neg (by omega)]; simp), if_neg (by omega), if_neg (by omega)]
theorem one_ok {e : DElem} (h : chkE e = 0) : (∀ x ∈ [e], chkE x = 0) ∧ [e].Pairwise SpO := ⟨fun x hx => by rw [List.mem_singleton.1 hx]; exact h, List.pairwise_singleton _ _⟩
theorem equal_refl {l : List DElem} (h : l.length ≤ 9223372036854775807) : slices_Equal_Elem F l l = some true := by rw [eqElem l l h]; simp
theorem same_none : annalref_SameTree F ⟨0, []⟩ ⟨0, []⟩ = some true := by
  unfold annalref_SameTree
  show (Option.bind (Option.bind (Option.bind (iter _ F (0 : Int)) _) _) _) = _
  rw [loop_run (fun _ => (0 : Int)) 0 (r := Sum.inl ()) rfl (by omega) (fun k hk => by omega) rfl]
  rfl
theorem begun_eq : annalkeep_begun F = some true := by
  have hc : chkE (at1E 1 (ByteArray.mk #[97])) = 0 := at1_ok (by decide) (by decide) (by decide)
  obtain ⟨ho, hp⟩ := one_ok hc
  obtain ⟨hg, he, hn⟩ := one_leaf (l := [at1E 1 (ByteArray.mk #[97])]) (by simp) ho hp
  unfold annalkeep_begun
  rw [at1_eq, Option.bind_some, of_eq (by simp) ho hp, Option.bind_some, tree_All_good (good_smalls hg) hg, he, Option.bind_some]
  dsimp only
  rw [show ((0 : Int) == 0) = true from rfl, cond_true, Option.bind_some, equal_refl (by simp)]; rfl

/-! ### How many nodes are in use -/
def usedR (ns : List DNode) : Nat := ((List.range ns.length).filter fun (i : Nat) => decide ((nd ns (i : Int)).kind ≠ 0)).length
theorem nodup_le {α : Type} [DecidableEq α] : ∀ {l m : List α}, l.Nodup → (∀ x ∈ l, x ∈ m) → l.length ≤ m.length
  | [], m, _, _ => Nat.zero_le _
  | a :: l, m, hn, hs => by
    rw [List.nodup_cons] at hn
    have h1 : a ∈ m := hs a List.mem_cons_self
    have := nodup_le (l := l) (m := m.erase a) hn.2 fun x hx => (List.mem_erase_of_ne (fun e => hn.1 (by rw [← e]; exact hx))).2 (hs x (List.mem_cons_of_mem _ hx))
    rw [List.length_erase_of_mem h1] at this
    have hp := List.length_pos_of_mem h1
    rw [List.length_cons]; omega
theorem ids_kind {ns : List DNode} : ∀ (h : Nat) (i d : Int) (s : Span), okN ns h i d s → ∀ j ∈ ids ns h i, (nd ns (j : Int)).kind ≠ 0 := by
  intro h
  induction h with
  | zero =>
    intro i d s hok j hj
    obtain rfl : j = i.toNat := by simpa [ids] using hj
    rw [Int.toNat_of_nonneg hok.1.1, hok.2.1]; decide
  | succ h ih =>
    intro i d s hok j hj
    rw [ids] at hj
    rcases List.mem_cons.1 hj with rfl | hj
    · rw [Int.toNat_of_nonneg hok.1.1]; exact hok.2.1.1
    · obtain ⟨k, hk, hj⟩ := List.mem_flatMap.1 hj
      obtain ⟨q, hq⟩ := List.mem_iff_getElem?.1 hk
      exact ih k _ _ (hok.2.2.2 (k, q) (zip_mem hq)).1 j hj
theorem ids_used {t : DTree} {h : Nat} (hg : Good t h) : (ids t.nodes h t.root).length ≤ usedR t.nodes :=
  nodup_le hg.nodup fun j hj => List.mem_filter.2 ⟨List.mem_range.2 (ids_range t.nodes h t.root 0 topS hg.ok j hj), decide_eq_true (ids_kind h t.root 0 topS hg.ok j hj)⟩
theorem used_loop (ns : List DNode) (hl : ns.length ≤ 400) : iter (σ := Int × Int) (ρ := Int) (fun x => match x with
        | (x1, x2) =>
          bif decide (x2 < (ns.length : Int)) then
              (
                (idx ns x2).bind fun e1 =>
                  bif (e1.kind != 0) then
                    some (IntKind.i64.wrap (x1 + 1))
                  else
                    some x1 : Option (Int)).bind fun z2 =>
              some (.inl (z2, IntKind.i64.wrap (x2 + 1)))
            else
              some (.inr x1)) F (0, 0) = some ((usedR ns : Nat) : Int) := by
  refine loop_run (fun k => (((((List.range k).filter fun (i : Nat) => decide ((nd ns (i : Int)).kind ≠ 0)).length : Nat) : Int), (k : Int))) ns.length rfl (by omega) (fun k hk => ?_) ?_
  · have hb : ((List.range k).filter fun (i : Nat) => decide ((nd ns (i : Int)).kind ≠ 0)).length ≤ k := by
      have := List.length_filter_le (fun i => decide ((nd ns ((i : Nat) : Int)).kind ≠ 0)) (List.range k)
      rwa [List.length_range] at this
    dsimp only
    rw [show decide ((k : Int) < (ns.length : Int)) = true from decide_eq_true (by omega), cond_true, nd_get (by omega) (by omega), Option.bind_some, List.range_succ, List.filter_append, List.length_append, w64 (n := (k : Int) + 1) (by omega) (by omega)]
    by_cases hk0 : (nd ns (k : Int)).kind = 0
    · rw [bne0_false hk0, cond_false, List.filter_cons_of_neg (by simpa using hk0)]; rfl
    · rw [bne0_true hk0, cond_true, List.filter_cons_of_pos (by simpa using hk0), w64 (by omega) (by omega)]; rfl
  · dsimp only
    rw [show decide ((ns.length : Int) < (ns.length : Int)) = false from decide_eq_false (by omega), cond_false]; rfl
end Go.Proofs.Ytoaopihihccfkaa
