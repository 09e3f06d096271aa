/- Plain Lean: changes, as what a key has ahead and behind. Its conditions: none. -/
import Derived.Test.YtaodaihoglcinacMRun
namespace Go.Proofs.Ytaodaihoglcinac
set_option linter.unusedVariables false
set_option linter.unusedSimpArgs false

def e0 : ByteArray := ByteArray.mk #[]
/-- What a change goes from, and to. -/
def fr (c : DChange) : Option ByteArray := if c.had then some c.was else none
def to (c : DChange) : Option ByteArray := if c.has then some c.is_ else none
def chgOf (k : DKey) (s t : Option ByteArray) : DChange := ⟨k, s.isSome, t.isSome, s.getD e0, t.getD e0⟩
def differs (c : DChange) : Bool := (!(c.had == c.has)) || (!decide (c.was = c.is_))
/-- A change is in its form. -/
def FormC (c : DChange) : Prop := (c.had = false → c.was = e0) ∧ (c.has = false → c.is_ = e0)
theorem form_of (k : DKey) (s t : Option ByteArray) : FormC (chgOf k s t) := by
  cases s <;> cases t <;> simp [FormC, chgOf]
theorem of_form {c : DChange} (h : FormC c) : c = chgOf c.key (fr c) (to c) := by
  obtain ⟨k, had, has, was, is_⟩ := c
  obtain ⟨h1, h2⟩ := h
  dsimp only at h1 h2
  cases had <;> cases has <;> simp_all [chgOf, fr, to]
@[simp] theorem fr_of (k : DKey) (s t : Option ByteArray) : fr (chgOf k s t) = s := by cases s <;> simp [fr, chgOf]
@[simp] theorem to_of (k : DKey) (s t : Option ByteArray) : to (chgOf k s t) = t := by cases t <;> simp [to, chgOf]
@[simp] theorem key_of (k : DKey) (s t : Option ByteArray) : (chgOf k s t).key = k := rfl
theorem differs_of (k : DKey) (s t : Option ByteArray) : differs (chgOf k s t) = !decide (s = t) := by
  cases s with
  | none => cases t with
    | none => simp [differs, chgOf]
    | some y => simp [differs, chgOf]
  | some x => cases t with
    | none => simp [differs, chgOf]
    | some y =>
      by_cases h : x = y
      · rw [decide_eq_true (show some x = some y by rw [h])]
        show ((!(true == true)) || (!decide (x = y))) = _
        rw [decide_eq_true h]; rfl
      · rw [decide_eq_false (show ¬ some x = some y from fun e => h (Option.some.inj e))]
        show ((!(true == true)) || (!decide (x = y))) = _
        rw [decide_eq_false h]; rfl
theorem differs_iff {c : DChange} (h : FormC c) : differs c = !decide (fr c = to c) := by
  conv => lhs; rw [of_form h]
  exact differs_of _ _ _
/-- Right changes. -/
def KeyLt (a b : DChange) : Prop := cmpK a.key b.key < 0
structure GoodC (l : List DChange) : Prop where
  len : l.length ≤ 400
  key : ∀ c ∈ l, chkK c.key = 0
  val : ∀ c ∈ l, c.was.size ≤ 40 ∧ c.is_.size ≤ 40
  form : ∀ c ∈ l, FormC c
  dif : ∀ c ∈ l, differs c = true
  ord : l.Pairwise KeyLt
theorem KeyLt.trans {a b c : DChange} (h : KeyLt a b) (k : KeyLt b c) : KeyLt a c := cmp_cmpK.lt_trans h k
theorem KeyLt.ne {a b : DChange} (h : KeyLt a b) : a.key ≠ b.key := fun e => by
  unfold KeyLt at h; rw [e, cmp_cmpK.refl] at h; omega
def chAt (l : List DChange) (k : DKey) : Option DChange := l.find? fun c => c.key == k
theorem chAt_cons (c : DChange) (l : List DChange) (k : DKey) : chAt (c :: l) k = if c.key = k then some c else chAt l k := by
  unfold chAt
  rw [List.find?_cons]
  by_cases h : c.key = k
  · rw [if_pos h, beq_iff_eq.2 h]
  · rw [if_neg h, beq_eq_false_iff_ne.2 h]
theorem chAt_none {l : List DChange} {k : DKey} : chAt l k = none ↔ ∀ c ∈ l, c.key ≠ k := by
  unfold chAt; rw [List.find?_eq_none]; simp
theorem chAt_some {l : List DChange} (h : l.Pairwise KeyLt) {k : DKey} {c : DChange} : chAt l k = some c ↔ c ∈ l ∧ c.key = k := by
  unfold chAt
  constructor
  · intro hf
    exact ⟨List.mem_of_find?_eq_some hf, by simpa using List.find?_some hf⟩
  · rintro ⟨h1, h2⟩
    cases hf : l.find? (fun c => c.key == k) with
    | none => rw [List.find?_eq_none] at hf; have := hf c h1; simp [h2] at this
    | some d =>
      have g1 := List.mem_of_find?_eq_some hf
      have g2 := List.find?_some hf
      rw [beq_iff_eq] at g2
      rcases pair_cases h g1 h1 with h3 | h3 | h3
      · rw [h3]
      · exact absurd (g2.trans h2.symm) h3.ne
      · exact absurd (h2.trans g2.symm) h3.ne
/-- Two lists of changes in order that say the same of each key are one. -/
theorem ch_ext : ∀ {l m : List DChange}, l.Pairwise KeyLt → m.Pairwise KeyLt → (∀ k, chAt l k = chAt m k) → l = m
  | [], [], _, _, _ => rfl
  | [], b :: m, _, _, h => by have := h b.key; rw [chAt_cons, if_pos rfl] at this; cases this
  | a :: l, [], _, _, h => by have := h a.key; rw [chAt_cons, if_pos rfl] at this; cases this
  | a :: l, b :: m, hl, hm, h => by
    have hl' := hl
    have hm' := hm
    rw [List.pairwise_cons] at hl hm
    have hab : a = b := by
      rcases cmp_cmpK.tri a.key b.key with h1 | h1 | h1
      · have h2 := h a.key
        rw [chAt_cons, if_pos rfl] at h2
        have h3 := ((chAt_some hm').1 h2.symm).1
        rcases List.mem_cons.1 h3 with h3 | h3
        · exact h3
        · have := cmp_cmpK.lt_trans h1 (hm.1 a h3); rw [cmp_cmpK.refl] at this; omega
      · have h2 := h a.key
        rw [chAt_cons, if_pos rfl, chAt_cons, if_pos h1.symm] at h2
        exact Option.some.inj h2
      · have h2 := h b.key
        rw [chAt_cons (c := b), if_pos rfl] at h2
        have h3 := ((chAt_some hl').1 h2).1
        rcases List.mem_cons.1 h3 with h3 | h3
        · exact h3.symm
        · have := cmp_cmpK.lt_trans h1 (hl.1 b h3); rw [cmp_cmpK.refl] at this; omega
    subst hab
    congr 1
    refine ch_ext hl.2 hm.2 fun k => ?_
    have h2 := h k
    rw [chAt_cons, chAt_cons] at h2
    by_cases hk : a.key = k
    · have e1 : chAt l k = none := chAt_none.2 fun c hc e => (hl.1 c hc).ne (hk.trans e.symm)
      have e2 : chAt m k = none := chAt_none.2 fun c hc e => (hm.1 c hc).ne (hk.trans e.symm)
      rw [e1, e2]
    · rw [if_neg hk, if_neg hk] at h2
      exact h2
/-- A change, if it is one. -/
def dif (k : DKey) (s t : Option ByteArray) : Option DChange := if s = t then none else some (chgOf k s t)

/-! ### Between two times -/
def vAt (l : List DElem) (k : DKey) (t : Int) : Option ByteArray := (atR l k t).map (·.val)
/-- What is said of the changes between two times. -/
structure BetwSpec (l : List DElem) (a b : Int) (cs : List DChange) : Prop where
  ord : cs.Pairwise KeyLt
  at_ : ∀ k, chAt cs k = dif k (vAt l k a) (vAt l k b)
  len : cs.length ≤ l.length
theorem BetwSpec.one {l : List DElem} {a b : Int} {c d : List DChange} (h : BetwSpec l a b c) (h' : BetwSpec l a b d) : c = d :=
  ch_ext h.ord h'.ord fun k => by rw [h.at_, h'.at_]
theorem vAt_some {l : List DElem} (h : l.Pairwise Bef) {k : DKey} {t : Int} {v : ByteArray} (hv : vAt l k t = some v) : ∃ e ∈ l, e.key = k ∧ e.val = v := by
  unfold vAt at hv
  rw [Option.map_eq_some_iff] at hv
  obtain ⟨e, h1, h2⟩ := hv
  obtain ⟨h3, h4, _⟩ := (atR_some h).1 h1
  exact ⟨e, h3, h4, h2⟩
theorem dif_mem {l : List DChange} {k : DKey} {s t : Option ByteArray} (ho : l.Pairwise KeyLt) {c : DChange} (hc : c ∈ l) (h : ∀ k, ∃ s t, chAt l k = dif k s t) : ∃ s t, s ≠ t ∧ c = chgOf c.key s t := by
  obtain ⟨s, t, hst⟩ := h c.key
  have h1 : chAt l c.key = some c := (chAt_some ho).2 ⟨hc, rfl⟩
  rw [h1] at hst
  unfold dif at hst
  split at hst
  · cases hst
  · rename_i hne
    exact ⟨s, t, hne, Option.some.inj hst⟩
theorem BetwSpec.good {l : List DElem} {a b : Int} {c : List DChange} (h : BetwSpec l a b c) (hl : Run l) : GoodC c := by
  have key : ∀ x ∈ c, vAt l x.key a ≠ vAt l x.key b ∧ x = chgOf x.key (vAt l x.key a) (vAt l x.key b) := fun x hx => by
    have h1 : chAt c x.key = some x := (chAt_some h.ord).2 ⟨hx, rfl⟩
    rw [h.at_] at h1
    unfold dif at h1
    split at h1
    · cases h1
    · rename_i hne
      exact ⟨hne, (Option.some.inj h1).symm⟩
  have sz : ∀ k t, ((vAt l k t).getD e0).size ≤ 40 := fun k t => by
    cases hv : vAt l k t with
    | none => exact (by decide : (0 : Nat) ≤ 40)
    | some v =>
      obtain ⟨e, he, _, rfl⟩ := vAt_some hl.ord hv
      exact (chkE_ok (hl.ok e he)).2.2.2.2
  refine ⟨Nat.le_trans h.len hl.len, fun x hx => ?_, fun x hx => ?_, fun x hx => ?_, fun x hx => ?_, h.ord⟩
  · obtain ⟨hne, _⟩ := key x hx
    have : ∃ e ∈ l, e.key = x.key := by
      cases h1 : vAt l x.key a with
      | some v => obtain ⟨e, he, hk, _⟩ := vAt_some hl.ord h1; exact ⟨e, he, hk⟩
      | none =>
        cases h2 : vAt l x.key b with
        | some v => obtain ⟨e, he, hk, _⟩ := vAt_some hl.ord h2; exact ⟨e, he, hk⟩
        | none => rw [h1, h2] at hne; exact absurd rfl hne
    obtain ⟨e, he, hk⟩ := this
    rw [← hk]
    exact (chkE_ok (hl.ok e he)).1
  · obtain ⟨_, hx'⟩ := key x hx
    rw [hx']
    exact ⟨sz _ _, sz _ _⟩
  · obtain ⟨_, hx'⟩ := key x hx
    rw [hx']; exact form_of _ _ _
  · obtain ⟨hne, hx'⟩ := key x hx
    rw [hx', differs_of]; simpa using hne

/-! ### Back -/
def inv (c : DChange) : DChange := ⟨c.key, c.has, c.had, c.is_, c.was⟩
def backC (l : List DChange) : List DChange := l.map inv
theorem inv_of (k : DKey) (s t : Option ByteArray) : inv (chgOf k s t) = chgOf k t s := rfl
theorem inv_inv (c : DChange) : inv (inv c) = c := rfl
theorem back_back (l : List DChange) : backC (backC l) = l := by
  unfold backC; rw [List.map_map]; conv => rhs; rw [← List.map_id l]
  rfl
theorem back_at (l : List DChange) (k : DKey) : chAt (backC l) k = (chAt l k).map inv := by
  unfold chAt backC
  rw [List.find?_map]; rfl
theorem back_ord {l : List DChange} (h : l.Pairwise KeyLt) : (backC l).Pairwise KeyLt := by
  unfold backC; rw [List.pairwise_map]; exact h
theorem GoodC.back {l : List DChange} (h : GoodC l) : GoodC (backC l) := by
  refine ⟨by unfold backC; rw [List.length_map]; exact h.len, fun c hc => ?_, fun c hc => ?_, fun c hc => ?_, fun c hc => ?_, back_ord h.ord⟩ <;> (obtain ⟨d, hd, rfl⟩ := List.mem_map.1 hc)
  · exact h.key d hd
  · exact ⟨(h.val d hd).2, (h.val d hd).1⟩
  · exact ⟨(h.form d hd).2, (h.form d hd).1⟩
  · have := h.dif d hd
    unfold differs at this ⊢
    rw [Bool.or_eq_true, Bool.not_eq_true', Bool.not_eq_true', beq_eq_false_iff_ne, decide_eq_false_iff_not] at this ⊢
    exact this.imp (fun h e => h e.symm) (fun h e => h e.symm)
theorem betw_back {l : List DElem} {a b : Int} {c : List DChange} (h : BetwSpec l a b c) : BetwSpec l b a (backC c) := by
  refine ⟨back_ord h.ord, fun k => ?_, by unfold backC; rw [List.length_map]; exact h.len⟩
  rw [back_at, h.at_]
  unfold dif
  by_cases he : vAt l k a = vAt l k b
  · rw [if_pos he, if_pos he.symm]; rfl
  · rw [if_neg he, if_neg (fun e => he e.symm)]; rfl
theorem betw_same {l : List DElem} {a : Int} {c : List DChange} (h : BetwSpec l a a c) : c = [] := by
  cases c with
  | nil => rfl
  | cons x c =>
    have := h.at_ x.key
    rw [chAt_cons, if_pos rfl] at this
    unfold dif at this
    rw [if_pos rfl] at this
    cases this

/-! ### One change behind another -/
/-- May two changes of a key follow each other? -/
def meets (x y : Option DChange) : Prop := match x, y with
  | some c, some d => to c = fr d
  | _, _ => True
def comp (x y : Option DChange) : Option DChange := match x, y with
  | some c, some d => dif c.key (fr c) (to d)
  | some c, none => some c
  | none, some d => some d
  | none, none => none
structure ThenSpec (a b r : List DChange) : Prop where
  ord : r.Pairwise KeyLt
  meet : ∀ k, meets (chAt a k) (chAt b k)
  at_ : ∀ k, chAt r k = comp (chAt a k) (chAt b k)
theorem ThenSpec.one {a b r q : List DChange} (h : ThenSpec a b r) (h' : ThenSpec a b q) : r = q := ch_ext h.ord h'.ord fun k => by rw [h.at_, h'.at_]

theorem chAt_gt {x : DChange} {l : List DChange} (h : ∀ c ∈ l, KeyLt x c) : chAt l x.key = none := chAt_none.2 fun c hc e => (h c hc).ne e.symm
theorem to_form {c d : DChange} (hc : FormC c) (hd : FormC d) : (c.has = d.had ∧ c.is_ = d.was) ↔ to c = fr d := by
  obtain ⟨k, had, has, was, is_⟩ := c
  obtain ⟨k', had', has', was', is'⟩ := d
  obtain ⟨_, h2⟩ := hc
  obtain ⟨h3, _⟩ := hd
  dsimp only at h2 h3
  cases has <;> cases had' <;> simp_all [to, fr]
theorem comp_key {k : DKey} {x y : Option DChange} (hx : ∀ c, x = some c → c.key = k) (hy : ∀ c, y = some c → c.key = k) {c : DChange} (h : comp x y = some c) : c.key = k := by
  cases x with
  | none => cases y with
    | none => cases h
    | some d => exact hy c h
  | some d => cases y with
    | none => exact hx c h
    | some e =>
      simp only [comp, dif] at h
      split at h
      · cases h
      · obtain rfl := Option.some.inj h; exact hx d rfl
section
variable {f : List DChange × List DChange × List DChange → Option ((List DChange × List DChange × List DChange) ⊕ (List DChange ⊕ (List DChange × Int)))} {M : Nat}
theorem then_loop (hend : ∀ acc, f (acc, [], []) = some (.inr (.inl acc)))
    (hA : ∀ acc x a b, acc.length + (x :: a).length + b.length ≤ M → (∀ y ∈ b.head?, cmpK x.key y.key < 0) → f (acc, x :: a, b) = some (.inl (acc ++ [x], a, b)))
    (hB : ∀ acc a y b, acc.length + a.length + (y :: b).length ≤ M → (∀ x ∈ a.head?, 0 < cmpK x.key y.key) → f (acc, a, y :: b) = some (.inl (acc ++ [y], a, b)))
    (hE : ∀ acc x a y b, acc.length + (x :: a).length + (y :: b).length ≤ M → x.key = y.key → FormC x → FormC y → f (acc, x :: a, y :: b) = if to x = fr y then some (.inl (acc ++ (dif x.key (fr x) (to y)).toList, a, b)) else some (.inr (.inr ([], 1)))) :
    ∀ (n N : Nat) (acc a b : List DChange), a.length + b.length ≤ n → n < N → acc.length + a.length + b.length ≤ M → a.Pairwise KeyLt → b.Pairwise KeyLt → (∀ c ∈ a, FormC c) → (∀ c ∈ b, FormC c) →
      (iter f N (acc, a, b) = some (.inr ([], 1)) ∧ ∃ k, ¬ meets (chAt a k) (chAt b k)) ∨
      ∃ r, iter f N (acc, a, b) = some (.inl (acc ++ r)) ∧ ThenSpec a b r ∧ r.length ≤ a.length + b.length ∧ ∀ c ∈ r, (∃ d ∈ a, d.key = c.key) ∨ ∃ d ∈ b, d.key = c.key := by
  intro n
  induction n with
  | zero =>
    intro N acc a b hn hN _ _ _ _ _
    obtain ⟨N, rfl⟩ : ∃ M, N = M + 1 := ⟨N - 1, by omega⟩
    obtain rfl := List.eq_nil_of_length_eq_zero (show a.length = 0 by omega)
    obtain rfl := List.eq_nil_of_length_eq_zero (show b.length = 0 by omega)
    right
    refine ⟨[], ?_, ⟨List.Pairwise.nil, fun k => trivial, fun k => rfl⟩, by simp, by simp⟩
    rw [iter, hend, List.append_nil]
  | succ n ih =>
    intro N acc a b hn hN hM ha hb fa fb
    obtain ⟨N, rfl⟩ : ∃ M, N = M + 1 := ⟨N - 1, by omega⟩
    -- the three ways on
    have stepA : ∀ x a', a = x :: a' → (∀ y ∈ b, KeyLt x y) → f (acc, a, b) = some (.inl (acc ++ [x], a', b)) →
        (iter f (N + 1) (acc, a, b) = some (.inr ([], 1)) ∧ ∃ k, ¬ meets (chAt a k) (chAt b k)) ∨
        ∃ r, iter f (N + 1) (acc, a, b) = some (.inl (acc ++ r)) ∧ ThenSpec a b r ∧ r.length ≤ a.length + b.length ∧ ∀ c ∈ r, (∃ d ∈ a, d.key = c.key) ∨ ∃ d ∈ b, d.key = c.key := by
      intro x a' hax hxb hf
      subst hax
      rw [List.pairwise_cons] at ha
      have hbx : chAt b x.key = none := chAt_gt hxb
      rw [iter, hf]
      dsimp only
      rcases ih N (acc ++ [x]) a' b (by simp at hn ⊢; omega) (by omega) (by simp at hM ⊢; omega) ha.2 hb (fun c hc => fa c (by simp [hc])) fb with ⟨h1, k, h2⟩ | ⟨r, h1, h2, h3, h4⟩
      · left
        refine ⟨h1, k, ?_⟩
        rw [chAt_cons]
        split
        · rename_i hk
          subst hk
          rw [hbx] at h2; simp [meets] at h2
        · exact h2
      · right
        have hgt : ∀ c ∈ r, KeyLt x c := fun c hc => by
          rcases h4 c hc with ⟨d, hd, hk⟩ | ⟨d, hd, hk⟩
          · have := ha.1 d hd; unfold KeyLt at this ⊢; rw [← hk]; exact this
          · have := hxb d hd; unfold KeyLt at this ⊢; rw [← hk]; exact this
        refine ⟨x :: r, by rw [h1]; simp, ⟨List.pairwise_cons.2 ⟨hgt, h2.ord⟩, fun k => ?_, fun k => ?_⟩, by simp; omega, fun c hc => ?_⟩
        · rw [chAt_cons]
          split
          · rename_i hk; subst hk; rw [hbx]; trivial
          · exact h2.meet k
        · rw [chAt_cons, chAt_cons]
          split
          · rename_i hk; subst hk; rw [hbx]; rfl
          · exact h2.at_ k
        · rcases List.mem_cons.1 hc with rfl | hc
          · exact .inl ⟨c, by simp, rfl⟩
          · rcases h4 c hc with ⟨d, hd, hk⟩ | h5
            · exact .inl ⟨d, by simp [hd], hk⟩
            · exact .inr h5
    have stepB : ∀ y b', b = y :: b' → (∀ x ∈ a, KeyLt y x) → f (acc, a, b) = some (.inl (acc ++ [y], a, b')) →
        (iter f (N + 1) (acc, a, b) = some (.inr ([], 1)) ∧ ∃ k, ¬ meets (chAt a k) (chAt b k)) ∨
        ∃ r, iter f (N + 1) (acc, a, b) = some (.inl (acc ++ r)) ∧ ThenSpec a b r ∧ r.length ≤ a.length + b.length ∧ ∀ c ∈ r, (∃ d ∈ a, d.key = c.key) ∨ ∃ d ∈ b, d.key = c.key := by
      intro y b' hby hya hf
      subst hby
      rw [List.pairwise_cons] at hb
      have hay : chAt a y.key = none := chAt_gt hya
      rw [iter, hf]
      dsimp only
      rcases ih N (acc ++ [y]) a b' (by simp at hn ⊢; omega) (by omega) (by simp at hM ⊢; omega) ha hb.2 fa (fun c hc => fb c (by simp [hc])) with ⟨h1, k, h2⟩ | ⟨r, h1, h2, h3, h4⟩
      · left
        refine ⟨h1, k, ?_⟩
        rw [chAt_cons (c := y)]
        split
        · rename_i hk
          subst hk
          rw [hay] at h2; simp [meets] at h2
        · exact h2
      · right
        have hgt : ∀ c ∈ r, KeyLt y c := fun c hc => by
          rcases h4 c hc with ⟨d, hd, hk⟩ | ⟨d, hd, hk⟩
          · have := hya d hd; unfold KeyLt at this ⊢; rw [← hk]; exact this
          · have := hb.1 d hd; unfold KeyLt at this ⊢; rw [← hk]; exact this
        refine ⟨y :: r, by rw [h1]; simp, ⟨List.pairwise_cons.2 ⟨hgt, h2.ord⟩, fun k => ?_, fun k => ?_⟩, by simp; omega, fun c hc => ?_⟩
        · rw [chAt_cons (c := y)]
          split
          · rename_i hk; subst hk; rw [hay]; trivial
          · exact h2.meet k
        · rw [chAt_cons, chAt_cons]
          split
          · rename_i hk; subst hk; rw [hay]; rfl
          · exact h2.at_ k
        · rcases List.mem_cons.1 hc with rfl | hc
          · exact .inr ⟨c, by simp, rfl⟩
          · rcases h4 c hc with h5 | ⟨d, hd, hk⟩
            · exact .inl h5
            · exact .inr ⟨d, by simp [hd], hk⟩
    cases a with
    | nil =>
      cases b with
      | nil =>
        right
        refine ⟨[], ?_, ⟨List.Pairwise.nil, fun k => trivial, fun k => rfl⟩, by simp, by simp⟩
        rw [iter, hend, List.append_nil]
      | cons y b => exact stepB y b rfl (by simp) (hB acc [] y b hM (by simp))
    | cons x a =>
      cases b with
      | nil => exact stepA x a rfl (by simp) (hA acc x a [] hM (by simp))
      | cons y b =>
        have ha' := List.pairwise_cons.1 ha
        have hb' := List.pairwise_cons.1 hb
        rcases cmp_cmpK.tri x.key y.key with h1 | h1 | h1
        · refine stepA x a rfl (fun z hz => ?_) (hA acc x a (y :: b) hM (by simpa using h1))
          rcases List.mem_cons.1 hz with rfl | hz
          · exact h1
          · exact cmp_cmpK.lt_trans h1 (hb'.1 z hz)
        · rw [iter, hE acc x a y b hM h1 (fa x (by simp)) (fb y (by simp))]
          by_cases hm : to x = fr y
          · rw [if_pos hm]
            dsimp only
            have hlen : (dif x.key (fr x) (to y)).toList.length ≤ 1 := by unfold dif; split <;> simp
            have hax : chAt a x.key = none := chAt_gt ha'.1
            have hbx : chAt b x.key = none := by rw [h1]; exact chAt_gt hb'.1
            rcases ih N (acc ++ (dif x.key (fr x) (to y)).toList) a b (by simp at hn ⊢; omega) (by omega) (by simp at hM ⊢; omega) ha'.2 hb'.2 (fun c hc => fa c (by simp [hc])) (fun c hc => fb c (by simp [hc])) with ⟨g1, k, g2⟩ | ⟨r, g1, g2, g3, g4⟩
            · left
              refine ⟨g1, k, ?_⟩
              by_cases hk : x.key = k
              · subst hk
                rw [hax, hbx] at g2; simp [meets] at g2
              · rw [chAt_cons, chAt_cons, if_neg hk, if_neg (by rw [← h1]; exact hk)]; exact g2
            · right
              have hgt : ∀ c ∈ r, cmpK x.key c.key < 0 := fun c hc => by
                rcases g4 c hc with ⟨d, hd, hk⟩ | ⟨d, hd, hk⟩
                · rw [← hk]; exact ha'.1 d hd
                · rw [← hk, h1]; exact hb'.1 d hd
              refine ⟨(dif x.key (fr x) (to y)).toList ++ r, by rw [g1]; simp, ⟨?_, fun k => ?_, fun k => ?_⟩, by simp; omega, fun c hc => ?_⟩
              · unfold dif
                split
                · exact g2.ord
                · exact List.pairwise_cons.2 ⟨fun c hc => hgt c hc, g2.ord⟩
              · by_cases hk : x.key = k
                · rw [chAt_cons, chAt_cons, if_pos hk, if_pos (by rw [← h1]; exact hk)]; exact hm
                · rw [chAt_cons, chAt_cons, if_neg hk, if_neg (by rw [← h1]; exact hk)]; exact g2.meet k
              · by_cases hk : x.key = k
                · subst hk
                  have hr : chAt r x.key = none := chAt_none.2 fun c hc e => by have := hgt c hc; rw [e, cmp_cmpK.refl] at this; omega
                  rw [chAt_cons (c := x), chAt_cons (c := y), if_pos rfl, if_pos h1.symm]
                  show _ = dif x.key (fr x) (to y)
                  unfold dif
                  split
                  · exact hr
                  · rw [Option.toList_some, List.singleton_append, chAt_cons, if_pos (key_of _ _ _)]
                · rw [chAt_cons (c := x), chAt_cons (c := y), if_neg hk, if_neg (by rw [← h1]; exact hk), ← g2.at_ k]
                  unfold dif
                  split
                  · rfl
                  · rw [Option.toList_some, List.singleton_append, chAt_cons, key_of, if_neg hk]
              · rcases List.mem_append.1 hc with hc | hc
                · left
                  refine ⟨x, by simp, ?_⟩
                  unfold dif at hc
                  split at hc
                  · simp at hc
                  · simp at hc; rw [hc]; rfl
                · rcases g4 c hc with ⟨d, hd, hk⟩ | ⟨d, hd, hk⟩
                  · exact .inl ⟨d, by simp [hd], hk⟩
                  · exact .inr ⟨d, by simp [hd], hk⟩
          · left
            rw [if_neg hm]
            refine ⟨rfl, x.key, ?_⟩
            rw [chAt_cons, chAt_cons, if_pos rfl, if_pos h1.symm]
            exact hm
        · refine stepB y b rfl (fun z hz => ?_) (hB acc (x :: a) y b hM (by simpa using cmp_cmpK.pos.2 h1))
          rcases List.mem_cons.1 hz with rfl | hz
          · exact h1
          · exact cmp_cmpK.lt_trans h1 (ha'.1 z hz)
end

/-! ### Between: the loop -/
/-- The value of the last record of some that is there at a time. -/
def lastV (t : Int) (h : List DElem) (s : Option ByteArray) : Option ByteArray := h.foldl (fun s x => if live x t then some x.val else s) s
theorem lastV_hist {k : DKey} {t : Int} : ∀ {h : List DElem}, h.Pairwise Bef → (∀ x ∈ h, x.key = k) → ∀ s, lastV t h s = match h.find? (fun x => live x t) with | some x => some x.val | none => s
  | [], _, _, _ => rfl
  | x :: h, hp, hk, s => by
    have hp' := List.pairwise_cons.1 hp
    show lastV t h (if live x t then some x.val else s) = _
    rw [lastV_hist hp'.2 (fun y hy => hk y (by simp [hy])), List.find?_cons]
    cases hx : live x t with
    | false => rfl
    | true =>
      have : h.find? (fun y => live y t) = none := by
        rw [List.find?_eq_none]
        intro y hy hl
        have := Run.live_one hp (by simp) (show y ∈ x :: h by simp [hy]) ((hk x (by simp)).trans (hk y (by simp [hy])).symm) hx hl
        subst this
        exact (hp'.1 x hy).irrefl
      rw [this]; rfl
theorem lastV_vAt {l : List DElem} (h : l.Pairwise Bef) (k : DKey) (t : Int) : lastV t (hist l k) none = vAt l k t := by
  rw [lastV_hist (show (hist l k).Pairwise Bef from h.sublist List.filter_sublist) (hist_keys l k)]
  unfold vAt
  rw [atR_hist]
  cases (hist l k).find? (fun x => live x t) <;> rfl
theorem split_group (k : DKey) : ∀ (l : List DElem), ∃ G R, l = G ++ R ∧ (∀ x ∈ G, x.key = k) ∧ ∀ x ∈ R.head?, x.key ≠ k
  | [] => ⟨[], [], rfl, by simp, by simp⟩
  | x :: l => by
    by_cases hx : x.key = k
    · obtain ⟨G, R, h1, h2, h3⟩ := split_group k l
      refine ⟨x :: G, R, by rw [h1]; rfl, fun y hy => ?_, h3⟩
      rcases List.mem_cons.1 hy with rfl | hy
      · exact hx
      · exact h2 y hy
    · exact ⟨[], x :: l, rfl, by simp, by simpa using hx⟩
section
variable {f : List DChange × Int → Option ((List DChange × Int) ⊕ List DChange)} {l : List DElem} {a b : Int}
theorem between_loop (hl : l.Pairwise Bef) (hend : ∀ acc, f (acc, (l.length : Int)) = some (.inr acc))
    (hstep : ∀ acc (i : Nat) e G R, l.drop i = e :: (G ++ R) → (∀ x ∈ G, x.key = e.key) → (∀ x ∈ R.head?, x.key ≠ e.key) → acc.length ≤ i →
      f (acc, (i : Int)) = some (.inl (acc ++ (dif e.key (lastV a (e :: G) none) (lastV b (e :: G) none)).toList, ((i + 1 + G.length : Nat) : Int)))) :
    ∀ (n N : Nat) (acc : List DChange) (i : Nat), l.length - i ≤ n → n < N → i ≤ l.length → acc.length ≤ i → (∀ x ∈ l.take i, ∀ y ∈ l.drop i, cmpK x.key y.key < 0) →
      ∃ cs, iter f N (acc, (i : Int)) = some (acc ++ cs) ∧ cs.Pairwise KeyLt ∧ (∀ c ∈ cs, ∃ y ∈ l.drop i, y.key = c.key) ∧ (∀ y ∈ l.drop i, chAt cs y.key = dif y.key (vAt l y.key a) (vAt l y.key b)) ∧ cs.length ≤ l.length - i := by
  intro n
  induction n with
  | zero =>
    intro N acc i hn hN hi hacc _
    obtain ⟨N, rfl⟩ : ∃ M, N = M + 1 := ⟨N - 1, by omega⟩
    obtain rfl : i = l.length := by omega
    refine ⟨[], ?_, List.Pairwise.nil, by simp, by simp, by simp⟩
    rw [iter, hend, List.append_nil]
  | succ n ih =>
    intro N acc i hn hN hi hacc hbd
    obtain ⟨N, rfl⟩ : ∃ M, N = M + 1 := ⟨N - 1, by omega⟩
    cases hd : l.drop i with
    | nil =>
      have : l.length ≤ i := by have := congrArg List.length hd; simp at this; omega
      obtain rfl : i = l.length := by omega
      refine ⟨[], ?_, List.Pairwise.nil, by simp, by simp, by simp⟩
      rw [iter, hend, List.append_nil]
    | cons e B =>
      obtain ⟨G, R, hB, hG, hR⟩ := split_group e.key B
      subst hB
      have hlen := congrArg List.length hd
      simp only [List.length_drop, List.length_cons, List.length_append] at hlen
      have hsp : l = l.take i ++ ((e :: G) ++ R) := by
        conv => lhs; rw [← List.take_append_drop i l, hd]
        rfl
      have hpw := hl
      rw [hsp, List.pairwise_append, List.pairwise_append] at hpw
      obtain ⟨_, ⟨_, pR, hGR⟩, _⟩ := hpw
      have hRgt : ∀ y ∈ R, cmpK e.key y.key < 0 := by
        cases R with
        | nil => simp
        | cons r R =>
          have h1 : Bef e r := hGR e (by simp) r (by simp)
          have h2 : cmpK e.key r.key < 0 := by
            rcases h1.key with h | h
            · exact h
            · exact absurd h.1.symm (hR r (by simp))
          intro y hy
          rcases List.mem_cons.1 hy with rfl | hy
          · exact h2
          · exact cmp_cmpK.lt_le h2 ((List.pairwise_cons.1 pR).1 y hy).le
      have hhist : hist l e.key = e :: G := by
        conv => lhs; rw [hsp]
        rw [hist_append, hist_append, hist_self (h := e :: G), hist_other (h := l.take i) (k' := e.key), hist_other (h := R) (k' := e.key), List.nil_append, List.append_nil]
        · intro y hy hk; have := hRgt y hy; rw [hk, cmp_cmpK.refl] at this; omega
        · intro x hx hk; have := hbd x hx e (by rw [hd]; simp); rw [hk, cmp_cmpK.refl] at this; omega
        · intro x hx
          rcases List.mem_cons.1 hx with rfl | hx
          · rfl
          · exact hG x hx
      have hs := hstep acc i e G R hd hG hR hacc
      rw [← hhist, lastV_vAt hl, lastV_vAt hl] at hs
      have hdl : (dif e.key (vAt l e.key a) (vAt l e.key b)).toList.length ≤ 1 := by unfold dif; split <;> simp
      have hd2 : l.drop (i + 1 + G.length) = R := by
        rw [show i + 1 + G.length = i + (e :: G).length by rw [List.length_cons]; omega, ← List.drop_drop, hd]
        exact List.drop_left (l₁ := e :: G)
      have ht2 : l.take (i + 1 + G.length) = l.take i ++ (e :: G) := by
        rw [show i + 1 + G.length = i + (e :: G).length by rw [List.length_cons]; omega, List.take_add, hd]
        congr 1
        exact List.take_left (l₁ := e :: G)
      obtain ⟨cs, h1, h2, h3, h4, h5⟩ := ih N (acc ++ (dif e.key (vAt l e.key a) (vAt l e.key b)).toList) (i + 1 + G.length) (by omega) (by omega) (by omega) (by rw [List.length_append]; omega) (fun x hx y hy => by
        rw [hd2] at hy
        rw [ht2] at hx
        rcases List.mem_append.1 hx with hx | hx
        · exact hbd x hx y (by rw [hd]; simp [hy])
        · have hk : x.key = e.key := by
            rcases List.mem_cons.1 hx with rfl | hx
            · rfl
            · exact hG x hx
          rw [hk]; exact hRgt y hy)
      rw [hd2] at h3 h4
      have hgt : ∀ c ∈ cs, cmpK e.key c.key < 0 := fun c hc => by
        obtain ⟨y, hy, hk⟩ := h3 c hc
        rw [← hk]; exact hRgt y hy
      refine ⟨(dif e.key (vAt l e.key a) (vAt l e.key b)).toList ++ cs, ?_, ?_, fun c hc => ?_, fun y hy => ?_, ?_⟩
      · rw [iter, hs]
        dsimp only
        rw [h1, List.append_assoc]
      · unfold dif
        split
        · exact h2
        · exact List.pairwise_cons.2 ⟨fun c hc => hgt c hc, h2⟩
      · rcases List.mem_append.1 hc with hc | hc
        · unfold dif at hc
          split at hc
          · simp at hc
          · simp at hc; rw [hc]; exact ⟨e, by simp, rfl⟩
        · obtain ⟨y, hy, hk⟩ := h3 c hc
          exact ⟨y, by simp [hy], hk⟩
      · have hdiff : ∀ k, e.key ≠ k → chAt ((dif e.key (vAt l e.key a) (vAt l e.key b)).toList ++ cs) k = chAt cs k := fun k hk => by
          unfold dif
          split
          · rfl
          · rw [Option.toList_some, List.singleton_append, chAt_cons, key_of, if_neg hk]
        have hself : chAt ((dif e.key (vAt l e.key a) (vAt l e.key b)).toList ++ cs) e.key = dif e.key (vAt l e.key a) (vAt l e.key b) := by
          have hr : chAt cs e.key = none := chAt_none.2 fun c hc e' => by have := hgt c hc; rw [e', cmp_cmpK.refl] at this; omega
          conv => lhs; unfold dif
          conv => rhs; unfold dif
          split
          · exact hr
          · rw [Option.toList_some, List.singleton_append, chAt_cons, if_pos (key_of _ _ _)]
        have hy' : y ∈ (e :: G) ++ R := hy
        rcases List.mem_append.1 hy' with hy | hy
        · have hk : y.key = e.key := by
            rcases List.mem_cons.1 hy with rfl | hy
            · rfl
            · exact hG y hy
          rw [hk]; exact hself
        · have hne : e.key ≠ y.key := fun e' => by have := hRgt y hy; rw [← e', cmp_cmpK.refl] at this; omega
          rw [hdiff _ hne]
          exact h4 y hy
      · rw [List.length_append]; omega
end
end Go.Proofs.Ytaodaihoglcinac
