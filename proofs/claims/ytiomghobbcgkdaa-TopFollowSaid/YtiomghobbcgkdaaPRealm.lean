/- Plain Lean: masters and slaves. Its conditions: none. -/
import Derived.Test.YtiomghobbcgkdaaRealmF
import Derived.Test.YtiomghobbcgkdaaTurnF
import Derived.Test.YtiomghobbcgkdaaPRun
import Derived.Test.YtiomghobbcgkdaaPStream
namespace Go.Proofs.Ytiomghobbcgkdaa
set_option linter.unusedVariables false
set_option linter.unusedSimpArgs false
variable {F : Nat} [Big F]

/-! ### The parts of a run -/
def loP (l : List DElem) (p : Int) : List DElem := l.filter fun e => decide (e.key.pfs < p)
def atP (l : List DElem) (p : Int) : List DElem := l.filter fun e => e.key.pfs == p
def hiP (l : List DElem) (p : Int) : List DElem := l.filter fun e => decide (p < e.key.pfs)
/-! ### Right books -/
def zB : DBook := ⟨[], ⟨0, 0, 0, 0, 0, 0, 0, 0, 0, 0, 0, 0, 0, 0, 0, 0⟩, ⟨0, 0, 0, 0, 0, 0, 0, 0, 0, 0, 0, 0, 0, 0, 0, 0⟩⟩
def roleB (r f : Int) : Bool := decide (0 ≤ r) && (decide (r ≤ 2) && (decide (0 ≤ f) && (decide (f ≤ 2147483647) && (r == 2 || decide (f ≤ 0)))))
def rolesB (b : DBook) : Bool := (b.roles.list.zip b.fed.list).all fun x => roleB x.1 x.2
def roleAt (b : DBook) (p : Int) : Int := (b.roles.list[p.toNat]?).getD 0
def fedAt (b : DBook) (p : Int) : Int := (b.fed.list[p.toNat]?).getD 0
def elemB (b : DBook) (e : DElem) : Bool := roleAt b e.key.pfs != 0 && (roleAt b e.key.pfs != 2 || decide (lastE e ≤ fedAt b e.key.pfs))
def chkB (b : DBook) : Int := if chkR b.run ≠ 0 then chkR b.run else if (rolesB b && b.run.all (elemB b)) = true then 0 else 3
theorem idx_list (a : DA16) {p : Int} (h0 : 0 ≤ p) (h1 : p ≤ 15) : idx a.list p = some ((a.list[p.toNat]?).getD 0) := by
  unfold idx
  rw [if_neg (by omega)]
  have : p.toNat < a.list.length := by rw [DA16.list_length]; omega
  rw [List.getElem?_eq_getElem this]; rfl
theorem idx_role (b : DBook) {p : Int} (h0 : 0 ≤ p) (h1 : p ≤ 15) : idx b.roles.list p = some (roleAt b p) := idx_list _ h0 h1
theorem idx_fed (b : DBook) {p : Int} (h0 : 0 ≤ p) (h1 : p ≤ 15) : idx b.fed.list p = some (fedAt b p) := idx_list _ h0 h1
theorem pfs_ok {e : DElem} (h : chkE e = 0) : 0 ≤ e.key.pfs ∧ e.key.pfs ≤ 15 := by
  have := (chkE_ok h).1
  unfold chkK at this
  split at this
  · cases this
  · omega
theorem zip_all (a b : DA16) (w : Int → Int → Bool) : (∀ (k : Nat) (x : Int), a.list[k]? = some x → w x ((b.list[k]?).getD 0) = true) ↔ ((a.list.zip b.list).all fun x => w x.1 x.2) = true := by
  rw [List.all_eq_true]
  constructor
  · rintro h ⟨x, y⟩ hm
    obtain ⟨k, hk⟩ := List.mem_iff_getElem?.1 hm
    rw [List.getElem?_zip_eq_some] at hk
    have := h k x hk.1
    rw [hk.2] at this
    exact this
  · intro h k x hx
    have hk : k < 16 := by have := (List.getElem?_eq_some_iff.1 hx).1; rwa [DA16.list_length] at this
    have hy := List.getElem?_eq_getElem (show k < b.list.length by rw [DA16.list_length]; exact hk)
    rw [hy, Option.getD_some]
    exact h (x, b.list[k]) (List.mem_of_getElem? (i := k) (List.getElem?_zip_eq_some.2 ⟨hx, hy⟩))
/-- What the first loop looks for. -/
def wR (b : DBook) (k : Nat) (r : Int) : Option (Unit ⊕ Int) := if roleB r ((b.fed.list[k]?).getD 0) then none else some (Sum.inr 3)
theorem realm_Check_eq (b : DBook) : realm_Check F b = some (chkB b) := by
  unfold realm_Check chkB
  rw [run_Check_eq, Option.bind_some]
  by_cases h : chkR b.run = 0
  · have hr := chkR_zero.1 h
    have hl := hr.len
    rw [bne0_false h, cond_false, if_neg (show ¬ chkR b.run ≠ 0 by simpa using h)]
    rw [loop_find b.roles.list (wR b) (.inl ()) (by rw [DA16.list_length]; omega) rfl (fun k r hk _ => ?_) (by rw [DA16.list_length]; rfl)]
    · by_cases hro : rolesB b = true
      · have hn : ((b.roles.list.zipIdx).findSome? fun p => wR b p.2 p.1) = none := by
          rw [find_none (w := wR b)]
          intro k r hk
          have := (zip_all b.roles b.fed roleB).2 hro k r hk
          unfold wR
          rw [if_pos this]
        rw [hn, Option.getD_none, Option.bind_some, hro, Bool.true_and]
        dsimp only
        rw [loop_first b.run (fun e => if elemB b e then none else some (Sum.inr 3)) (.inl ()) (by omega) rfl (fun k e hk => ?_) (by rw [decide_eq_false (by omega), cond_false])]
        · by_cases hel : b.run.all (elemB b) = true
          · have hn2 : b.run.findSome? (fun e => if elemB b e then none else some (Sum.inr 3 : Unit ⊕ Int)) = none := by
              rw [List.findSome?_eq_none_iff]
              intro e he
              rw [if_pos (List.all_eq_true.1 hel e he)]
            rw [hn2, if_pos hel]; rfl
          · rw [if_neg hel]
            have hn2 : b.run.findSome? (fun e => if elemB b e then none else some (Sum.inr 3 : Unit ⊕ Int)) = some (.inr 3) := by
              cases hf : b.run.findSome? (fun e => if elemB b e then none else some (Sum.inr 3 : Unit ⊕ Int)) with
              | none =>
                exfalso
                rw [List.findSome?_eq_none_iff] at hf
                apply hel
                rw [List.all_eq_true]
                intro e he
                have := hf e he
                split at this
                · assumption
                · cases this
              | some r =>
                obtain ⟨e, _, hr⟩ := List.exists_of_findSome?_eq_some hf
                split at hr
                · cases hr
                · exact hr.symm
            rw [hn2]; rfl
        · have hkl := (List.getElem?_eq_some_iff.1 hk).1
          obtain ⟨p0, p1⟩ := pfs_ok (hr.ok e (List.mem_of_getElem? hk))
          rw [decide_eq_true (by omega), cond_true, idx_nat', hk, Option.bind_some, idx_role b p0 p1, Option.bind_some, Option.bind_some, idx_fed b p0 p1, elem_Last_eq]
          unfold elemB
          generalize roleAt b e.key.pfs = r
          generalize fedAt b e.key.pfs = f
          rw [Option.bind_some, Option.bind_some]
          by_cases c0 : r = 0
          · rw [show (r == 0) = true by simpa using c0, cond_true, Option.bind_some, cond_true]
            simp [c0]
          · rw [show (r == 0) = false by simpa using c0, cond_false]
            by_cases c2 : r = 2
            · rw [show (r == 2) = true by simpa using c2, cond_true, Option.bind_some]
              by_cases c3 : f < lastE e
              · rw [decide_eq_true c3, cond_true]
                rw [if_neg (by simp [c2]; omega)]
              · rw [decide_eq_false c3, cond_false, w64 (by omega) (by omega), if_pos (by simp [c2]; omega)]
            · rw [show (r == 2) = false by simpa using c2, cond_false, Option.bind_some, cond_false, w64 (by omega) (by omega), if_pos (by simp [c0, c2])]
      · have hn : ((b.roles.list.zipIdx).findSome? fun p => wR b p.2 p.1) = some (.inr 3) := by
          cases hf : ((b.roles.list.zipIdx).findSome? fun p => wR b p.2 p.1) with
          | none =>
            exfalso
            rw [find_none (w := wR b)] at hf
            apply hro
            refine (zip_all b.roles b.fed roleB).1 fun k x hx => ?_
            have := hf k x hx
            unfold wR at this
            split at this
            · assumption
            · cases this
          | some r =>
            obtain ⟨k, e, _, hr⟩ := find_some (w := wR b) hf
            unfold wR at hr
            split at hr
            · cases hr
            · exact hr.symm
        rw [hn, if_neg (by rw [Bool.and_eq_true]; exact fun hh => hro hh.1)]; rfl
    · have hk16 : k < 16 := by have := (List.getElem?_eq_some_iff.1 hk).1; rwa [DA16.list_length] at this
      have hy := List.getElem?_eq_getElem (show k < b.fed.list.length by rw [DA16.list_length]; exact hk16)
      generalize b.fed.list[k]'(by rw [DA16.list_length]; exact hk16) = f at hy
      rw [decide_eq_true (by omega), cond_true, idx_nat', hk, Option.bind_some, idx_nat', hy, Option.bind_some, Option.bind_some, Option.bind_some]
      unfold wR roleB
      rw [hy, Option.getD_some]
      by_cases c1 : r < 0
      · rw [decide_eq_true c1, cond_true, Option.bind_some, cond_true, if_neg (by simp; omega)]
      · rw [decide_eq_false c1, cond_false]
        by_cases c2 : 2 < r
        · rw [decide_eq_true c2, cond_true, Option.bind_some, cond_true, if_neg (by simp; omega)]
        · rw [decide_eq_false c2, cond_false]
          by_cases c3 : f < 0
          · rw [decide_eq_true c3, cond_true, Option.bind_some, cond_true, if_neg (by simp; omega)]
          · rw [decide_eq_false c3, cond_false]
            by_cases c4 : 2147483647 < f
            · rw [decide_eq_true c4, cond_true, Option.bind_some, cond_true, if_neg (by simp; omega)]
            · rw [decide_eq_false c4, cond_false]
              by_cases c5 : r = 2
              · rw [show (r != 2) = false by simpa using c5, cond_false, Option.bind_some, cond_false, w64 (by omega) (by omega), if_pos (by simp; omega)]
              · rw [show (r != 2) = true by simpa using c5, cond_true, Option.bind_some]
                by_cases c6 : 0 < f
                · rw [decide_eq_true c6, cond_true, if_neg (by simp; omega)]
                · rw [decide_eq_false c6, cond_false, w64 (by omega) (by omega), if_pos (by simp; omega)]
  · rw [bne0_true h, cond_true, if_pos (show chkR b.run ≠ 0 from h)]
/-- What a right book is. -/
structure Book (b : DBook) : Prop where
  run : Run b.run
  role : ∀ p : Int, 0 ≤ p → p ≤ 15 → 0 ≤ roleAt b p ∧ roleAt b p ≤ 2 ∧ 0 ≤ fedAt b p ∧ fedAt b p ≤ 2147483647 ∧ (roleAt b p ≠ 2 → fedAt b p = 0)
  elem : ∀ e ∈ b.run, roleAt b e.key.pfs ≠ 0 ∧ (roleAt b e.key.pfs = 2 → lastE e ≤ fedAt b e.key.pfs)
theorem chkB_zero {b : DBook} : chkB b = 0 ↔ Book b := by
  unfold chkB
  by_cases h : chkR b.run = 0
  · rw [if_neg (show ¬ chkR b.run ≠ 0 by simpa using h)]
    have key : rolesB b = true ↔ ∀ p : Int, 0 ≤ p → p ≤ 15 → 0 ≤ roleAt b p ∧ roleAt b p ≤ 2 ∧ 0 ≤ fedAt b p ∧ fedAt b p ≤ 2147483647 ∧ (roleAt b p ≠ 2 → fedAt b p = 0) := by
      unfold rolesB
      rw [← zip_all]
      constructor
      · intro hr p p0 p1
        have hx := List.getElem?_eq_getElem (show p.toNat < b.roles.list.length by rw [DA16.list_length]; omega)
        have := hr p.toNat _ hx
        unfold roleAt fedAt
        rw [hx, Option.getD_some]
        unfold roleB at this
        simp at this
        omega
      · intro hr k x hx
        have hk : k < 16 := by have := (List.getElem?_eq_some_iff.1 hx).1; rwa [DA16.list_length] at this
        have := hr (k : Int) (by omega) (by omega)
        unfold roleAt fedAt at this
        rw [Int.toNat_natCast, hx, Option.getD_some] at this
        unfold roleB
        simp
        omega
    have key2 : b.run.all (elemB b) = true ↔ ∀ e ∈ b.run, roleAt b e.key.pfs ≠ 0 ∧ (roleAt b e.key.pfs = 2 → lastE e ≤ fedAt b e.key.pfs) := by
      rw [List.all_eq_true]
      constructor
      · intro hh e he
        have := hh e he
        unfold elemB at this
        simp only [Bool.and_eq_true, Bool.or_eq_true, bne_iff_ne, decide_eq_true_eq] at this
        exact ⟨this.1, fun h2 => by rcases this.2 with h3 | h3; exact absurd h2 h3; exact h3⟩
      · intro hh e he
        have := hh e he
        unfold elemB
        simp only [Bool.and_eq_true, Bool.or_eq_true, bne_iff_ne, decide_eq_true_eq]
        refine ⟨this.1, ?_⟩
        by_cases h2 : roleAt b e.key.pfs = 2
        · exact .inr (this.2 h2)
        · exact .inl h2
    constructor
    · intro hh
      split at hh
      · rename_i h1
        rw [Bool.and_eq_true, key, key2] at h1
        exact ⟨chkR_zero.1 h, h1.1, h1.2⟩
      · cases hh
    · rintro ⟨_, h1, h2⟩
      rw [if_pos (by rw [Bool.and_eq_true, key, key2]; exact ⟨h1, h2⟩)]
  · rw [if_pos (show chkR b.run ≠ 0 from h)]
    exact ⟨fun hh => absurd hh h, fun hh => absurd (chkR_zero.2 hh.run) h⟩
def lookB (b : DBook) (p : Int) : Int := if chkB b ≠ 0 then chkB b else if p < 0 ∨ 15 < p then 1 else 0
theorem lookB_zero {b : DBook} {p : Int} : lookB b p = 0 ↔ Book b ∧ 0 ≤ p ∧ p ≤ 15 := by
  unfold lookB
  rw [← chkB_zero]
  by_cases h : chkB b = 0
  · rw [if_neg (show ¬ chkB b ≠ 0 by simpa using h), and_iff_right h]
    split
    · constructor
      · intro h; cases h
      · omega
    · constructor
      · omega
      · intro _; rfl
  · rw [if_pos (show chkB b ≠ 0 from h)]
    exact ⟨fun hh => absurd hh h, fun hh => absurd hh.1 h⟩
theorem realm_look_eq (b : DBook) (p : Int) : realm_look F b p = some (lookB b p) := by
  unfold realm_look lookB
  rw [realm_Check_eq, Option.bind_some]
  by_cases h : chkB b = 0
  · rw [bne0_false h, cond_false, if_neg (show ¬ chkB b ≠ 0 by simpa using h)]
    simp only [Bool.cond_eq_ite, Bool.or_eq_true, decide_eq_true_eq]
    split <;> rfl
  · rw [bne0_true h, cond_true, if_pos (show chkB b ≠ 0 from h)]
def withB (b : DBook) (p : Int) (l : List DElem) : DBook × Int := if 400 < (loP b.run p).length + l.length + (hiP b.run p).length then (zB, 8) else (⟨loP b.run p ++ (l ++ hiP b.run p), b.roles, b.fed⟩, 0)
def putB (b : DBook) (k : DKey) (v : ByteArray) (t : Int) : DBook × Int :=
  if lookB b k.pfs ≠ 0 then (zB, lookB b k.pfs) else if roleAt b k.pfs ≠ 1 then (zB, 10)
  else if putE (atP b.run k.pfs) k v t ≠ 0 then (zB, putE (atP b.run k.pfs) k v t) else withB b k.pfs (putR (atP b.run k.pfs) k v t)
def cutB (b : DBook) (k : DKey) (t : Int) : DBook × Int :=
  if lookB b k.pfs ≠ 0 then (zB, lookB b k.pfs) else if roleAt b k.pfs ≠ 1 then (zB, 10)
  else if cutE (atP b.run k.pfs) k t ≠ 0 then (zB, cutE (atP b.run k.pfs) k t) else withB b k.pfs (cutR (atP b.run k.pfs) k t)
def upB (b : DBook) (p : Int) : DBook × Int :=
  if lookB b p ≠ 0 then (zB, lookB b p) else if roleAt b p ≠ 2 then (zB, 10) else (⟨b.run, b.roles.set p.toNat 1, b.fed.set p.toNat 0⟩, 0)
def downB (b : DBook) (p : Int) : DBook × Int :=
  if lookB b p ≠ 0 then (zB, lookB b p) else if roleAt b p ≠ 1 then (zB, 10) else (⟨b.run, b.roles.set p.toNat 2, b.fed.set p.toNat (lastL (atP b.run p))⟩, 0)
end Go.Proofs.Ytiomghobbcgkdaa
