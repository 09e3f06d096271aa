/- Plain Lean: masters and slaves. Its conditions: none. -/
import Derived.Test.YtdggcklddjndmaaRealmFJ
import Derived.Test.YtdggcklddjndmaaTurnFJ
import Derived.Test.YtdggcklddjndmaaPRunJ
import Derived.Test.YtdggcklddjndmaaPStreamJ
namespace Go.Proofs.Ytdggcklddjndmaa
set_option linter.unusedVariables false
set_option linter.unusedSimpArgs false
variable {F : Nat} [Big F]
def loP (l : List DElem) (p : Int) : List DElem := l.filter fun e => decide (e.key.pfs < p)
def atP (l : List DElem) (p : Int) : List DElem := l.filter fun e => e.key.pfs == p
def hiP (l : List DElem) (p : Int) : List DElem := l.filter fun e => decide (p < e.key.pfs)
theorem mem_loP {l : List DElem} {p : Int} {e : DElem} : e ∈ loP l p ↔ e ∈ l ∧ e.key.pfs < p := by simp [loP]
theorem mem_atP {l : List DElem} {p : Int} {e : DElem} : e ∈ atP l p ↔ e ∈ l ∧ e.key.pfs = p := by simp [atP]
theorem mem_hiP {l : List DElem} {p : Int} {e : DElem} : e ∈ hiP l p ↔ e ∈ l ∧ p < e.key.pfs := by simp [hiP]
theorem cmpK_pfs {a b : DKey} (h : cmpK a b ≤ 0) : a.pfs ≤ b.pfs := by
 rw [cmpK_def] at h
 by_cases h0 : ord a.pfs b.pfs = 0
 · have := (cmp_ord.zero _ _).1 h0; omega
 · rw [if_pos h0] at h
   exact ord_le.1 h
theorem cmpK_pfs_lt {a b : DKey} (h : a.pfs < b.pfs) : cmpK a b < 0 := by
 rw [cmpK_def]
 have h1 : ord a.pfs b.pfs < 0 := ord_lt.2 h
 rw [if_pos (by omega)]; exact h1
theorem parts3 : ∀ {l : List DElem} (p : Int), l.Pairwise Bef → l = loP l p ++ (atP l p ++ hiP l p)
 | [], _, _ => rfl
 | x :: l, p, h => by
  rw [List.pairwise_cons] at h
  have ih := parts3 p h.2
  have hle : ∀ y ∈ l, x.key.pfs ≤ y.key.pfs := fun y hy => cmpK_pfs (h.1 y hy).le
  unfold loP atP hiP at *
  rcases Int.lt_trichotomy x.key.pfs p with hx | hx | hx
  · rw [List.filter_cons_of_pos (by simpa using hx), List.filter_cons_of_neg (by simp; omega), List.filter_cons_of_neg (by simp; omega), List.cons_append, ← ih]
  · have hb : l.filter (fun e => decide (e.key.pfs < p)) = [] := by
     rw [List.filter_eq_nil_iff]; intro y hy hc
     have := hle y hy; simp at hc; omega
    rw [List.filter_cons_of_neg (by simp; omega), List.filter_cons_of_pos (by simpa using hx), List.filter_cons_of_neg (by simp; omega), hb]
    rw [hb, List.nil_append] at ih
    rw [List.nil_append, List.cons_append, ← ih]
  · have e1 : l.filter (fun e => decide (e.key.pfs < p)) = [] := by
     rw [List.filter_eq_nil_iff]; intro y hy hc
     have := hle y hy; simp at hc; omega
    have e2 : l.filter (fun e => e.key.pfs == p) = [] := by
     rw [List.filter_eq_nil_iff]; intro y hy hc
     have := hle y hy; simp at hc; omega
    have e3 : l.filter (fun e => decide (p < e.key.pfs)) = l := List.filter_eq_self.2 fun y hy => by have := hle y hy; simp; omega
    rw [List.filter_cons_of_neg (by simp; omega), List.filter_cons_of_neg (by simp; omega), List.filter_cons_of_pos (by simpa using hx), e1, e2, e3]; rfl
theorem parts_text {l : List DElem} (h : Run l) (p : Int) :
 ((iter (σ := Int) (ρ := Int) (fun x1 =>
  (
   bif decide (x1 < (l.length : Int)) then
    (idx l x1).bind fun e1 =>
    some (decide (e1.key.pfs < p))
    else
     some false : Option (Bool)).bind fun z5 =>
   bif z5 then
    some (.inl (IntKind.i64.wrap (x1 + 1)))
   else
    some (.inr x1)) F 0).bind fun z4 =>
  (iter (σ := Int) (ρ := Int) (fun x2 =>
   (
    bif decide (x2 < (l.length : Int)) then
     (idx l x2).bind fun e2 =>
     some (e2.key.pfs == p)
     else
      some false : Option (Bool)).bind fun z7 =>
    bif z7 then
     some (.inl (IntKind.i64.wrap (x2 + 1)))
    else
     some (.inr x2)) F z4).bind fun z6 =>
  (lslice l 0 z4).bind fun s1 =>
  (lslice l z4 z6).bind fun s2 =>
  (lslice l z6 (l.length : Int)).bind fun s3 =>
  some (s1, s2, s3) : Option ((List DElem) × (List DElem) × (List DElem))) = some (loP l p, atP l p, hiP l p) := by
 have hl := h.len
 have hs := parts3 p h.ord
 have hA : ∀ x ∈ loP l p, x.key.pfs < p := fun x hx => (mem_loP.1 hx).2
 have hM : ∀ x ∈ atP l p, x.key.pfs = p := fun x hx => (mem_atP.1 hx).2
 have hB : ∀ x ∈ hiP l p, p < x.key.pfs := fun x hx => (mem_hiP.1 hx).2
 generalize loP l p = A at hs hA
 generalize atP l p = M at hs hM
 generalize hiP l p = B at hs hB
 have hlen : l.length = A.length + (M.length + B.length) := by rw [hs, List.length_append, List.length_append]
 have at1 : ∀ k, k < A.length → ∃ e, l[k]? = some e ∧ e.key.pfs < p := fun k hk => by
  refine ⟨A[k], ?_, hA _ (List.getElem_mem hk)⟩
  rw [hs, List.getElem?_append_left hk, List.getElem?_eq_getElem hk]
 have at2 : ∀ k, k < M.length → ∃ e, l[A.length + k]? = some e ∧ e.key.pfs = p := fun k hk => by
  refine ⟨M[k], ?_, hM _ (List.getElem_mem hk)⟩
  rw [hs, List.getElem?_append_right (by omega), Nat.add_sub_cancel_left, List.getElem?_append_left hk, List.getElem?_eq_getElem hk]
 have at3 : ∀ k, k < B.length → ∃ e, l[A.length + M.length + k]? = some e ∧ p < e.key.pfs := fun k hk => by
  refine ⟨B[k], ?_, hB _ (List.getElem_mem hk)⟩
  rw [hs, List.getElem?_append_right (by omega), show A.length + M.length + k - A.length = M.length + k by omega, List.getElem?_append_right (by omega), Nat.add_sub_cancel_left, List.getElem?_eq_getElem hk]
 rw [loop_run (s := 0) (fun k => (k : Int)) A.length (r := (A.length : Int)) rfl (by omega) (fun k hk => ?_) ?_, Option.bind_some]
 · rw [loop_run (s := (A.length : Int)) (fun k => ((A.length + k : Nat) : Int)) M.length (r := ((A.length + M.length : Nat) : Int)) rfl (by omega) (fun k hk => ?_) ?_, Option.bind_some]
   · rw [lslice_to (by omega), Option.bind_some, lslice_ok (by omega) (by omega) (by omega), Option.bind_some, lslice_from (by omega), Option.bind_some, Int.toNat_natCast, Int.toNat_natCast]
     have e1 : l.take A.length = A := by rw [hs]; exact List.take_left
     have e2 : (l.take (A.length + M.length)).drop A.length = M := by
      rw [hs, ← List.append_assoc, List.take_left' (by rw [List.length_append]), List.drop_left]
     have e3 : l.drop (A.length + M.length) = B := by
      rw [hs, ← List.append_assoc, List.drop_left' (by rw [List.length_append])]
     rw [e1, e2, e3]
   · rcases Nat.eq_zero_or_pos B.length with h0 | h0
     · rw [decide_eq_false (by omega), cond_false, Option.bind_some, cond_false]
     · obtain ⟨e, he, hp⟩ := at3 0 h0
       rw [Nat.add_zero] at he
       rw [decide_eq_true (by omega), cond_true, idx_nat', he, Option.bind_some, Option.bind_some, show (e.key.pfs == p) = false by simp; omega, cond_false]
   · obtain ⟨e, he, hp⟩ := at2 k hk
     rw [decide_eq_true (by omega), cond_true, idx_nat', he, Option.bind_some, Option.bind_some, show (e.key.pfs == p) = true by simpa using hp, cond_true, w64 (by omega) (by omega)]
     rfl
 · rcases Nat.eq_zero_or_pos (M.length + B.length) with h0 | h0
   · rw [decide_eq_false (by omega), cond_false, Option.bind_some, cond_false]
   · have : ∃ e, l[A.length]? = some e ∧ ¬ e.key.pfs < p := by
      rcases Nat.eq_zero_or_pos M.length with h1 | h1
      · obtain ⟨e, he, hp⟩ := at3 0 (by omega)
        rw [h1] at he
        exact ⟨e, he, by omega⟩
      · obtain ⟨e, he, hp⟩ := at2 0 h1
        exact ⟨e, he, by omega⟩
     obtain ⟨e, he, hp⟩ := this
     rw [decide_eq_true (by omega), cond_true, idx_nat', he, Option.bind_some, Option.bind_some, decide_eq_false hp, cond_false]
 · obtain ⟨e, he, hp⟩ := at1 k hk
   rw [decide_eq_true (by omega), cond_true, idx_nat', he, Option.bind_some, Option.bind_some, decide_eq_true hp, cond_true, w64 (by omega) (by omega)]
   rfl
def zB : DBook := ⟨[], ⟨0, 0, 0, 0, 0, 0, 0, 0, 0, 0, 0, 0, 0, 0, 0, 0⟩, ⟨0, 0, 0, 0, 0, 0, 0, 0, 0, 0, 0, 0, 0, 0, 0, 0⟩⟩
def roleB (r f : Int) : Bool := decide (0 ≤ r) && (decide (r ≤ 2) && (decide (0 ≤ f) && (decide (f ≤ 2147483647) && (r == 2 || decide (f ≤ 0)))))
def rolesB (b : DBook) : Bool := (b.roles.list.zip b.fed.list).all fun x => roleB x.1 x.2
def roleAt (b : DBook) (p : Int) : Int := (b.roles.list[p.toNat]?).getD 0
def fedAt (b : DBook) (p : Int) : Int := (b.fed.list[p.toNat]?).getD 0
def elemB (b : DBook) (e : DElem) : Bool := roleAt b e.key.pfs != 0 && (roleAt b e.key.pfs != 2 || decide (lastE e ≤ fedAt b e.key.pfs))
def chkB (b : DBook) : Int := if chkR b.run ≠ 0 then chkR b.run else if (rolesB b && b.run.all (elemB b)) = true then 0 else 3
theorem idx_list (a : DA16) {p : Int} (h0 : 0 ≤ p) (h1 : p ≤ 15) : idx a.list p = some ((a.list[p.toNat]?).getD 0) := by
 unfold idx
 rw [if_neg (by omega)]
 have : p.toNat < a.list.length := by rw [DA16.list_length]; omega
 rw [List.getElem?_eq_getElem this]; rfl
theorem idx_role (b : DBook) {p : Int} (h0 : 0 ≤ p) (h1 : p ≤ 15) : idx b.roles.list p = some (roleAt b p) := idx_list _ h0 h1
theorem idx_fed (b : DBook) {p : Int} (h0 : 0 ≤ p) (h1 : p ≤ 15) : idx b.fed.list p = some (fedAt b p) := idx_list _ h0 h1
theorem pfs_ok {e : DElem} (h : chkE e = 0) : 0 ≤ e.key.pfs ∧ e.key.pfs ≤ 15 := by
 have := (chkE_ok h).1
 unfold chkK at this
 split at this
 · cases this
 · omega
theorem zip_all (a b : DA16) (w : Int → Int → Bool) : (∀ (k : Nat) (x : Int), a.list[k]? = some x → w x ((b.list[k]?).getD 0) = true) ↔ ((a.list.zip b.list).all fun x => w x.1 x.2) = true := by
 rw [List.all_eq_true]
 constructor
 · rintro h ⟨x, y⟩ hm
   obtain ⟨k, hk⟩ := List.mem_iff_getElem?.1 hm
   rw [List.getElem?_zip_eq_some] at hk
   have := h k x hk.1
   rw [hk.2] at this
   exact this
 · intro h k x hx
   have hk : k < 16 := by have := (List.getElem?_eq_some_iff.1 hx).1; rwa [DA16.list_length] at this
   have hy := List.getElem?_eq_getElem (show k < b.list.length by rw [DA16.list_length]; exact hk)
   rw [hy, Option.getD_some]
   exact h (x, b.list[k]) (List.mem_of_getElem? (i := k) (List.getElem?_zip_eq_some.2 ⟨hx, hy⟩))
def wR (b : DBook) (k : Nat) (r : Int) : Option (Unit ⊕ Int) := if roleB r ((b.fed.list[k]?).getD 0) then none else some (Sum.inr 3)
theorem realm_Check_eq (b : DBook) : realm_Check F b = some (chkB b) := by
 unfold realm_Check chkB
 rw [run_Check_eq, Option.bind_some]
 by_cases h : chkR b.run = 0
 · have hr := chkR_zero.1 h
   have hl := hr.len
   rw [bne0_false h, cond_false, if_neg (show ¬ chkR b.run ≠ 0 by simpa using h)]
   rw [loop_find b.roles.list (wR b) (.inl ()) (by rw [DA16.list_length]; omega) rfl (fun k r hk _ => ?_) (by rw [DA16.list_length]; rfl)]
   · by_cases hro : rolesB b = true
     · have hn : ((b.roles.list.zipIdx).findSome? fun p => wR b p.2 p.1) = none := by
        rw [find_none (w := wR b)]
        intro k r hk
        have := (zip_all b.roles b.fed roleB).2 hro k r hk
        unfold wR
        rw [if_pos this]
       rw [hn, Option.getD_none, Option.bind_some, hro, Bool.true_and]
       dsimp only
       rw [loop_first b.run (fun e => if elemB b e then none else some (Sum.inr 3)) (.inl ()) (by omega) rfl (fun k e hk => ?_) (by rw [decide_eq_false (by omega), cond_false])]
       · by_cases hel : b.run.all (elemB b) = true
         · have hn2 : b.run.findSome? (fun e => if elemB b e then none else some (Sum.inr 3 : Unit ⊕ Int)) = none := by
            rw [List.findSome?_eq_none_iff]
            intro e he
            rw [if_pos (List.all_eq_true.1 hel e he)]
           rw [hn2, if_pos hel]; rfl
         · rw [if_neg hel]
           have hn2 : b.run.findSome? (fun e => if elemB b e then none else some (Sum.inr 3 : Unit ⊕ Int)) = some (.inr 3) := by
            cases hf : b.run.findSome? (fun e => if elemB b e then none else some (Sum.inr 3 : Unit ⊕ Int)) with
            | none =>
             exfalso
             rw [List.findSome?_eq_none_iff] at hf
             apply hel
             rw [List.all_eq_true]
             intro e he
             have := hf e he
             split at this
             · assumption
             · cases this
            | some r =>
             obtain ⟨e, _, hr⟩ := List.exists_of_findSome?_eq_some hf
             split at hr
             · cases hr
             · exact hr.symm
           rw [hn2]; rfl
       · have hkl := (List.getElem?_eq_some_iff.1 hk).1
         obtain ⟨p0, p1⟩ := pfs_ok (hr.ok e (List.mem_of_getElem? hk))
         rw [decide_eq_true (by omega), cond_true, idx_nat', hk, Option.bind_some, idx_role b p0 p1, Option.bind_some, Option.bind_some, idx_fed b p0 p1, elem_Last_eq]
         unfold elemB
         generalize roleAt b e.key.pfs = r
         generalize fedAt b e.key.pfs = f
         rw [Option.bind_some, Option.bind_some]
         by_cases c0 : r = 0
         · rw [show (r == 0) = true by simpa using c0, cond_true, Option.bind_some, cond_true]
           simp [c0]
         · rw [show (r == 0) = false by simpa using c0, cond_false]
           by_cases c2 : r = 2
           · rw [show (r == 2) = true by simpa using c2, cond_true, Option.bind_some]
             by_cases c3 : f < lastE e
             · rw [decide_eq_true c3, cond_true]
               rw [if_neg (by simp [c2]; omega)]
             · rw [decide_eq_false c3, cond_false, w64 (by omega) (by omega), if_pos (by simp [c2]; omega)]
           · rw [show (r == 2) = false by simpa using c2, cond_false, Option.bind_some, cond_false, w64 (by omega) (by omega), if_pos (by simp [c0, c2])]
     · have hn : ((b.roles.list.zipIdx).findSome? fun p => wR b p.2 p.1) = some (.inr 3) := by
        cases hf : ((b.roles.list.zipIdx).findSome? fun p => wR b p.2 p.1) with
        | none =>
         exfalso
         rw [find_none (w := wR b)] at hf
         apply hro
         refine (zip_all b.roles b.fed roleB).1 fun k x hx => ?_
         have := hf k x hx
         unfold wR at this
         split at this
         · assumption
         · cases this
        | some r =>
         obtain ⟨k, e, _, hr⟩ := find_some (w := wR b) hf
         unfold wR at hr
         split at hr
         · cases hr
         · exact hr.symm
       rw [hn, if_neg (by rw [Bool.and_eq_true]; exact fun hh => hro hh.1)]; rfl
   · have hk16 : k < 16 := by have := (List.getElem?_eq_some_iff.1 hk).1; rwa [DA16.list_length] at this
     have hy := List.getElem?_eq_getElem (show k < b.fed.list.length by rw [DA16.list_length]; exact hk16)
     generalize b.fed.list[k]'(by rw [DA16.list_length]; exact hk16) = f at hy
     rw [decide_eq_true (by omega), cond_true, idx_nat', hk, Option.bind_some, idx_nat', hy, Option.bind_some, Option.bind_some, Option.bind_some]
     unfold wR roleB
     rw [hy, Option.getD_some]
     by_cases c1 : r < 0
     · rw [decide_eq_true c1, cond_true, Option.bind_some, cond_true, if_neg (by simp; omega)]
     · rw [decide_eq_false c1, cond_false]
       by_cases c2 : 2 < r
       · rw [decide_eq_true c2, cond_true, Option.bind_some, cond_true, if_neg (by simp; omega)]
       · rw [decide_eq_false c2, cond_false]
         by_cases c3 : f < 0
         · rw [decide_eq_true c3, cond_true, Option.bind_some, cond_true, if_neg (by simp; omega)]
         · rw [decide_eq_false c3, cond_false]
           by_cases c4 : 2147483647 < f
           · rw [decide_eq_true c4, cond_true, Option.bind_some, cond_true, if_neg (by simp; omega)]
           · rw [decide_eq_false c4, cond_false]
             by_cases c5 : r = 2
             · rw [show (r != 2) = false by simpa using c5, cond_false, Option.bind_some, cond_false, w64 (by omega) (by omega), if_pos (by simp; omega)]
             · rw [show (r != 2) = true by simpa using c5, cond_true, Option.bind_some]
               by_cases c6 : 0 < f
               · rw [decide_eq_true c6, cond_true, if_neg (by simp; omega)]
               · rw [decide_eq_false c6, cond_false, w64 (by omega) (by omega), if_pos (by simp; omega)]
 · rw [bne0_true h, cond_true, if_pos (show chkR b.run ≠ 0 from h)]
structure Book (b : DBook) : Prop where
 run : Run b.run
 role : ∀ p : Int, 0 ≤ p → p ≤ 15 → 0 ≤ roleAt b p ∧ roleAt b p ≤ 2 ∧ 0 ≤ fedAt b p ∧ fedAt b p ≤ 2147483647 ∧ (roleAt b p ≠ 2 → fedAt b p = 0)
 elem : ∀ e ∈ b.run, roleAt b e.key.pfs ≠ 0 ∧ (roleAt b e.key.pfs = 2 → lastE e ≤ fedAt b e.key.pfs)
theorem chkB_zero {b : DBook} : chkB b = 0 ↔ Book b := by
 unfold chkB
 by_cases h : chkR b.run = 0
 · rw [if_neg (show ¬ chkR b.run ≠ 0 by simpa using h)]
   have key : rolesB b = true ↔ ∀ p : Int, 0 ≤ p → p ≤ 15 → 0 ≤ roleAt b p ∧ roleAt b p ≤ 2 ∧ 0 ≤ fedAt b p ∧ fedAt b p ≤ 2147483647 ∧ (roleAt b p ≠ 2 → fedAt b p = 0) := by
    unfold rolesB
    rw [← zip_all]
    constructor
    · intro hr p p0 p1
      have hx := List.getElem?_eq_getElem (show p.toNat < b.roles.list.length by rw [DA16.list_length]; omega)
      have := hr p.toNat _ hx
      unfold roleAt fedAt
      rw [hx, Option.getD_some]
      unfold roleB at this
      simp at this
      omega
    · intro hr k x hx
      have hk : k < 16 := by have := (List.getElem?_eq_some_iff.1 hx).1; rwa [DA16.list_length] at this
      have := hr (k : Int) (by omega) (by omega)
      unfold roleAt fedAt at this
      rw [Int.toNat_natCast, hx, Option.getD_some] at this
      unfold roleB
      simp
      omega
   have key2 : b.run.all (elemB b) = true ↔ ∀ e ∈ b.run, roleAt b e.key.pfs ≠ 0 ∧ (roleAt b e.key.pfs = 2 → lastE e ≤ fedAt b e.key.pfs) := by
    rw [List.all_eq_true]
    constructor
    · intro hh e he
      have := hh e he
      unfold elemB at this
      simp only [Bool.and_eq_true, Bool.or_eq_true, bne_iff_ne, decide_eq_true_eq] at this
      exact ⟨this.1, fun h2 => by rcases this.2 with h3 | h3; exact absurd h2 h3; exact h3⟩
    · intro hh e he
      have := hh e he
      unfold elemB
      simp only [Bool.and_eq_true, Bool.or_eq_true, bne_iff_ne, decide_eq_true_eq]
      refine ⟨this.1, ?_⟩
      by_cases h2 : roleAt b e.key.pfs = 2
      · exact .inr (this.2 h2)
      · exact .inl h2
   constructor
   · intro hh
     split at hh
     · rename_i h1
       rw [Bool.and_eq_true, key, key2] at h1
       exact ⟨chkR_zero.1 h, h1.1, h1.2⟩
     · cases hh
   · rintro ⟨_, h1, h2⟩
     rw [if_pos (by rw [Bool.and_eq_true, key, key2]; exact ⟨h1, h2⟩)]
 · rw [if_pos (show chkR b.run ≠ 0 from h)]
   exact ⟨fun hh => absurd hh h, fun hh => absurd (chkR_zero.2 hh.run) h⟩
def lookB (b : DBook) (p : Int) : Int := if chkB b ≠ 0 then chkB b else if p < 0 ∨ 15 < p then 1 else 0
theorem lookB_zero {b : DBook} {p : Int} : lookB b p = 0 ↔ Book b ∧ 0 ≤ p ∧ p ≤ 15 := by
 unfold lookB
 rw [← chkB_zero]
 by_cases h : chkB b = 0
 · rw [if_neg (show ¬ chkB b ≠ 0 by simpa using h), and_iff_right h]
   split
   · constructor
     · intro h; cases h
     · omega
   · constructor
     · omega
     · intro _; rfl
 · rw [if_pos (show chkB b ≠ 0 from h)]
   exact ⟨fun hh => absurd hh h, fun hh => absurd hh.1 h⟩
theorem realm_look_eq (b : DBook) (p : Int) : realm_look F b p = some (lookB b p) := by
 unfold realm_look lookB
 rw [realm_Check_eq, Option.bind_some]
 by_cases h : chkB b = 0
 · rw [bne0_false h, cond_false, if_neg (show ¬ chkB b ≠ 0 by simpa using h)]
   simp only [Bool.cond_eq_ite, Bool.or_eq_true, decide_eq_true_eq]
   split <;> rfl
 · rw [bne0_true h, cond_true, if_pos (show chkB b ≠ 0 from h)]
def withB (b : DBook) (p : Int) (l : List DElem) : DBook × Int := if 400 < (loP b.run p).length + l.length + (hiP b.run p).length then (zB, 8) else (⟨loP b.run p ++ (l ++ hiP b.run p), b.roles, b.fed⟩, 0)
theorem realm_with_eq {b : DBook} (h : Run b.run) (p : Int) {l : List DElem} (hl : l.length ≤ 400) : realm_with F b p l = some (withB b p l) := by
 unfold realm_with withB
 have h1 : (loP b.run p).length ≤ 400 := Nat.le_trans (List.length_filter_le _ _) h.len
 have h2 : (hiP b.run p).length ≤ 400 := Nat.le_trans (List.length_filter_le _ _) h.len
 rw [parts_text h p, Option.bind_some]
 dsimp only
 rw [w64 (n := ((loP b.run p).length : Int) + (l.length : Int)) (by omega) (by omega), w64 (by omega) (by omega)]
 by_cases h4 : 400 < (loP b.run p).length + l.length + (hiP b.run p).length
 · rw [decide_eq_true (by omega), cond_true, if_pos h4]; rfl
 · rw [decide_eq_false (by omega), cond_false, if_neg h4, grow_ok (by simp; omega) (by simp; omega), Option.bind_some, grow_ok (by simp; omega) (by simp; omega), Option.bind_some, grow_ok (by simp; omega) (by simp; omega), Option.bind_some]
   simp
def putB (b : DBook) (k : DKey) (v : ByteArray) (t : Int) : DBook × Int :=
 if lookB b k.pfs ≠ 0 then (zB, lookB b k.pfs) else if roleAt b k.pfs ≠ 1 then (zB, 10)
 else if putE (atP b.run k.pfs) k v t ≠ 0 then (zB, putE (atP b.run k.pfs) k v t) else withB b k.pfs (putR (atP b.run k.pfs) k v t)
theorem realm_Put_eq (b : DBook) (k : DKey) (v : ByteArray) (t : Int) : realm_Put F b k v t = some (putB b k v t) := by
 unfold realm_Put putB
 rw [realm_look_eq, Option.bind_some]
 by_cases h : lookB b k.pfs = 0
 · obtain ⟨hb, p0, p1⟩ := lookB_zero.1 h
   rw [bne0_false h, cond_false, if_neg (show ¬ lookB b k.pfs ≠ 0 by simpa using h), idx_role b p0 p1, Option.bind_some]
   by_cases h1 : roleAt b k.pfs = 1
   · rw [show (roleAt b k.pfs != 1) = false by simpa using h1, cond_false, if_neg (show ¬ roleAt b k.pfs ≠ 1 by simpa using h1), parts_text hb.run k.pfs, Option.bind_some]
     dsimp only
     rw [run_Put_eq, Option.bind_some]
     by_cases h2 : putE (atP b.run k.pfs) k v t = 0
     · rw [if_pos h2]
       dsimp only
       rw [bne0_false h2, cond_false, if_neg (show ¬ putE (atP b.run k.pfs) k v t ≠ 0 by simpa using h2), realm_with_eq hb.run _ (putE_zero.1 h2).2.2.2]; rfl
     · rw [if_neg h2]
       dsimp only
       rw [bne0_true h2, cond_true, if_pos (show putE (atP b.run k.pfs) k v t ≠ 0 from h2)]; rfl
   · rw [show (roleAt b k.pfs != 1) = true by simpa using h1, cond_true, if_pos (show roleAt b k.pfs ≠ 1 from h1)]; rfl
 · rw [bne0_true h, cond_true, if_pos (show lookB b k.pfs ≠ 0 from h)]; rfl
def cutB (b : DBook) (k : DKey) (t : Int) : DBook × Int :=
 if lookB b k.pfs ≠ 0 then (zB, lookB b k.pfs) else if roleAt b k.pfs ≠ 1 then (zB, 10)
 else if cutE (atP b.run k.pfs) k t ≠ 0 then (zB, cutE (atP b.run k.pfs) k t) else withB b k.pfs (cutR (atP b.run k.pfs) k t)
theorem realm_Cut_eq (b : DBook) (k : DKey) (t : Int) : realm_Cut F b k t = some (cutB b k t) := by
 unfold realm_Cut cutB
 rw [realm_look_eq, Option.bind_some]
 by_cases h : lookB b k.pfs = 0
 · obtain ⟨hb, p0, p1⟩ := lookB_zero.1 h
   rw [bne0_false h, cond_false, if_neg (show ¬ lookB b k.pfs ≠ 0 by simpa using h), idx_role b p0 p1, Option.bind_some]
   by_cases h1 : roleAt b k.pfs = 1
   · rw [show (roleAt b k.pfs != 1) = false by simpa using h1, cond_false, if_neg (show ¬ roleAt b k.pfs ≠ 1 by simpa using h1), parts_text hb.run k.pfs, Option.bind_some]
     dsimp only
     rw [run_Cut_eq, Option.bind_some]
     by_cases h2 : cutE (atP b.run k.pfs) k t = 0
     · rw [if_pos h2]
       dsimp only
       obtain ⟨hr, h3, h4, h5, h6, _⟩ := cutE_zero.1 h2
       rw [bne0_false h2, cond_false, if_neg (show ¬ cutE (atP b.run k.pfs) k t ≠ 0 by simpa using h2), realm_with_eq hb.run _ (hr.cutR h6 h4 h5 k).len]; rfl
     · rw [if_neg h2]
       dsimp only
       rw [bne0_true h2, cond_true, if_pos (show cutE (atP b.run k.pfs) k t ≠ 0 from h2)]; rfl
   · rw [show (roleAt b k.pfs != 1) = true by simpa using h1, cond_true, if_pos (show roleAt b k.pfs ≠ 1 from h1)]; rfl
 · rw [bne0_true h, cond_true, if_pos (show lookB b k.pfs ≠ 0 from h)]; rfl
end Go.Proofs.Ytdggcklddjndmaa
