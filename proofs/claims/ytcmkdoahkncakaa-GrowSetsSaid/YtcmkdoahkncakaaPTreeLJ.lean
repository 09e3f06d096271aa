/- Pure functions, written by walkgen.py out of the Go functions of group Pack. Their conditions: none. -/
import Derived.Test.YtcmkdoahkncakaaBuildFJ
import Derived.Test.YtcmkdoahkncakaaTreeFJ
import Derived.Test.YtcmkdoahkncakaaEqsFJ
import Derived.Test.YtcmkdoahkncakaaMapJ
import Derived.Test.YtcmkdoahkncakaaPLoopJ
import Derived.Test.YtcmkdoahkncakaaPBuildJ
namespace Go.Proofs.Ytcmkdoahkncakaa
set_option linter.unusedVariables false

def annalref_SameNode (F : Nat) (p0 : DNode) (p1 : DNode) : Option (Bool) :=
  (
    bif (p0.kind == p1.kind) then
        (slices_Equal_Elem F p0.elems p1.elems).bind fun r1 =>
        bif r1 then
          (slices_Equal_int F p0.kids p1.kids).bind fun r2 =>
          bif r2 then
            (slices_Equal_Spot F p0.seps p1.seps).bind fun r3 =>
            bif r3 then
              (slices_Equal_int F p0.tids p1.tids).bind fun r4 =>
              some r4
            else
              some false
          else
            some false
        else
          some false
      else
        some false : Option (Bool)).bind fun z1 =>
  some z1

def annalref_SameTree (F : Nat) (p0 : DTree) (p1 : DTree) : Option (Bool) :=
  (
    bif (p0.root == p1.root) then
        (
          bif ((p0.nodes.length : Int) != (p1.nodes.length : Int)) then
              some false
            else
              (iter (σ := Int) (ρ := (Unit) ⊕ Bool) (fun x1 =>
                  bif decide (x1 < (p0.nodes.length : Int)) then
                      (idx p0.nodes x1).bind fun e1 =>
                      (idx p1.nodes x1).bind fun e2 =>
                      (annalref_SameNode F e1 e2).bind fun r1 =>
                      bif (!r1) then
                        some (.inr (.inr false))
                      else
                        some (.inl (IntKind.i64.wrap (x1 + 1)))
                    else
                      some (.inr (.inl ()))) F 0).bind fun z => match z with
                | .inl _ =>
                  some true
                | .inr q => some q : Option (Bool)).bind fun z2 =>
        some z2
      else
        some false : Option (Bool)).bind fun z1 =>
  some z1

def annalkeep_begun (F : Nat) : Option (Bool) :=
  (annalkeep_at1 1 (ByteArray.mk #[97])).bind fun r1 =>
  (annalkeep_of F [r1]).bind fun r2 =>
  (tree_All F r2).bind fun r3 =>
  (
    bif (r3.2 == 0) then
        (annalkeep_at1 1 (ByteArray.mk #[97])).bind fun r4 =>
        (slices_Equal_Elem F r3.1 [r4]).bind fun r5 =>
        some r5
      else
        some false : Option (Bool)).bind fun z1 =>
  some z1

end Go.Proofs.Ytcmkdoahkncakaa
/- Plain Lean: slices.Equal, Index, Contains. Its conditions: none. -/
namespace Go.Proofs.Ytcmkdoahkncakaa
set_option linter.unusedVariables false
set_option linter.unusedSimpArgs false
variable {F : Nat} [Big F]

theorem equalF {α : Type} [DecidableEq α] (test : α → α → Bool) (ht : ∀ x y, test x y = true ↔ x = y) (p q : List α) (hp : p.length ≤ 9223372036854775807) :
    (bif ((p.length : Int) != (q.length : Int)) then
      some false
    else
      (iter (σ := Int) (ρ := (Unit) ⊕ Bool) (fun x1 =>
        bif decide (x1 < (p.length : Int)) then
            (idx p x1).bind fun e1 =>
            (idx q x1).bind fun e2 =>
            bif (!(test e1 e2)) then
              some (.inr (.inr false))
            else
              some (.inl (IntKind.i64.wrap (x1 + 1)))
          else
            some (.inr (.inl ()))) F 0).bind fun z => match z with
      | .inl _ =>
        some true
      | .inr q => some q) = some (decide (p = q)) := by
  by_cases hl : p.length = q.length
  · rw [show ((p.length : Int) != (q.length : Int)) = false by rw [bne_eq_false_iff_eq]; omega, cond_false]
    obtain ⟨W, hW⟩ : ∃ W : Nat → α → Option (Unit ⊕ Bool), ∀ k e, W k e = if q[k]? = some e then none else some (Sum.inr false) := ⟨_, fun _ _ => rfl⟩
    rw [loop_find p W (Sum.inl ()) hp rfl (fun k e hk _ => ?_) (by simp)]
    · by_cases he : p = q
      · subst he
        rw [find_none.2 fun k e hk => by rw [hW, if_pos hk], decide_eq_true rfl]; rfl
      · rw [decide_eq_false he]
        cases hf : p.zipIdx.findSome? fun a => W a.2 a.1 with
        | some r =>
          obtain ⟨k, e, _, hr⟩ := find_some hf
          rw [hW] at hr
          split at hr
          · cases hr
          · obtain rfl := Option.some.inj hr; rfl
        | none =>
          exfalso
          apply he
          rw [find_none] at hf
          apply List.ext_getElem?
          intro k
          cases hk : p[k]? with
          | none => rw [List.getElem?_eq_none_iff] at hk; rw [List.getElem?_eq_none (by omega)]
          | some e =>
            have := hf k e hk
            rw [hW] at this
            split at this
            · rename_i h; exact h.symm
            · cases this
    · have hkl := (List.getElem?_eq_some_iff.1 hk).1
      have hq : q[k]? = some (q[k]'(by omega)) := List.getElem?_eq_getElem (by omega)
      rw [decide_eq_true (by omega), cond_true, idx_nat', idx_nat', hk, hq, Option.bind_some, Option.bind_some, w64 (by omega) (by omega), hW]
      by_cases he : q[k]'(by omega) = e
      · rw [if_pos (by rw [hq, he]), (ht _ _).2 he.symm]; rfl
      · have hf : test e (q[k]'(by omega)) = false := by
          cases hx : test e (q[k]'(by omega))
          · rfl
          · exact absurd ((ht _ _).1 hx).symm he
        rw [if_neg (by rw [hq]; simpa using he), hf]; rfl
  · rw [show ((p.length : Int) != (q.length : Int)) = true by rw [bne_iff_ne]; omega, cond_true, decide_eq_false (fun e => hl (by rw [e]))]
theorem eqElem (p q : List DElem) (hp : p.length ≤ 9223372036854775807) : slices_Equal_Elem F p q = some (decide (p = q)) := equalF (fun x y => x == y) (fun x y => by simp) p q hp
end Go.Proofs.Ytcmkdoahkncakaa
/- Plain Lean: what laws about trees share. Its conditions: none. -/
namespace Go.Proofs.Ytcmkdoahkncakaa
set_option linter.unusedVariables false
set_option linter.unusedSimpArgs false
variable {F : Nat} [Big F]
theorem within_nat {n m : Int} (hm : 0 < m) (hn : m ≤ 1000000) : ∃ r : Nat, annalkeep_Within n m = some (r : Int) ∧ (r : Int) < m := by
  unfold annalkeep_Within toDiv
  have e1 : IntKind.u64.wrap m = m := by simp [IntKind.wrap, IntKind.bits, IntKind.signed]; omega
  have e2 : 0 ≤ IntKind.u64.wrap n := by simp [IntKind.wrap, IntKind.bits, IntKind.signed]; omega
  rw [e1, if_neg (by omega), Option.bind_some]
  have h3 := Int.tmod_nonneg m e2
  have h4 := Int.tmod_lt_of_pos (IntKind.u64.wrap n) hm
  refine ⟨((IntKind.u64.wrap n).tmod m).toNat, ?_, by omega⟩
  rw [w64 (by omega) (by omega)]
  congr 1; omega

theorem build_ok {l : List DElem} (h : ¬ 400 < l.length) (hb : badR l = none) : ofR l = (buildT l, 0) := by
  unfold ofR; rw [if_neg h, hb]
theorem of_eq {l : List DElem} (hl : l.length ≤ 400) (ho : ∀ e ∈ l, chkE e = 0) (hp : l.Pairwise SpO) : annalkeep_of F l = some (buildT l) := by
  unfold annalkeep_of
  rw [build_Of_eq, Option.bind_some, build_ok (by omega) (badR_none.2 ⟨ho, hp⟩)]
theorem good_smalls {t : DTree} {h : Nat} (hg : Good t h) : ∀ n ∈ t.nodes, Small n := fun n hn => small_chk (hg.chk n hn)
/-- Few records: one leaf. -/
theorem one_leaf {l : List DElem} (hl : l.length ≤ 8) (ho : ∀ e ∈ l, chkE e = 0) (hp : l.Pairwise SpO) : Good (buildT l) 0 ∧ elemsAt (buildT l).nodes 0 (buildT l).root = l ∧ (buildT l).nodes.length = 1 := by
  obtain ⟨h, hg, he, hn, h1, hm⟩ := buildT_spec (by omega) ho hp
  have h0 : h = 0 := by
    cases h with
    | zero => rfl
    | succ h => have := hm 0 (by omega); rw [cN, kOf_one hl] at this; omega
  subst h0
  exact ⟨hg, he, by rw [hn, sN, cN, kOf_one hl]⟩
def at1E (off : Int) (v : ByteArray) : DElem := ⟨⟨0, 0, off⟩, 1, 0, v⟩
theorem at1_eq (off : Int) (v : ByteArray) : annalkeep_at1 off v = some (at1E off v) := rfl
theorem at1_ok {off : Int} {v : ByteArray} (h0 : 0 ≤ off) (h1 : off ≤ 1000) (hv : v.size ≤ 40) : chkE (at1E off v) = 0 := by
  unfold chkE at1E chkK
  dsimp only
  rw [if_neg (by rw [if_neg (by omega)]; simp), if_neg (by omega), if_neg (by omega)]
theorem one_ok {e : DElem} (h : chkE e = 0) : (∀ x ∈ [e], chkE x = 0) ∧ [e].Pairwise SpO := ⟨fun x hx => by rw [List.mem_singleton.1 hx]; exact h, List.pairwise_singleton _ _⟩
theorem equal_refl {l : List DElem} (h : l.length ≤ 9223372036854775807) : slices_Equal_Elem F l l = some true := by rw [eqElem l l h]; simp
/-! ### How many nodes are in use -/
def usedR (ns : List DNode) : Nat := ((List.range ns.length).filter fun (i : Nat) => decide ((nd ns (i : Int)).kind ≠ 0)).length
end Go.Proofs.Ytcmkdoahkncakaa
