/- Plain Lean: the records of a tree from a spot on, and walks over them that may be left. Its conditions: none. -/
import Derived.Test.YtoaopihihccfkaaPTree
import Derived.Test.YtoaopihihccfkaaRange
namespace Go.Proofs.Ytoaopihihccfkaa
set_option linter.unusedVariables false
set_option linter.unusedSimpArgs false
section walks
variable {τ α β : Type} {F : Nat}
/-- A walk over a list, with a state; it is left where the number is not nought. -/
def runX (t : τ → α → τ × Nat) : List α → τ → τ × Nat
  | [], a => (a, 0)
  | e :: l, a => if (t a e).2 = 0 then runX t l (t a e).1 else t a e
theorem runX_append (t : τ → α → τ × Nat) : ∀ (l m : List α) (a : τ), runX t (l ++ m) a = if (runX t l a).2 = 0 then runX t m (runX t l a).1 else runX t l a
  | [], m, a => by simp [runX]
  | e :: l, m, a => by
    rw [List.cons_append, runX, runX]
    by_cases h : (t a e).2 = 0
    · rw [if_pos h, if_pos h, runX_append t l m]
    · rw [if_neg h, if_neg h, if_neg h]
theorem runX_filter (t : τ → α → τ × Nat) (p : α → Bool) : ∀ (l : List α) (a : τ), runX (fun st e => if p e then t st e else (st, 0)) l a = runX t (l.filter p) a
  | [], a => rfl
  | e :: l, a => by
    rw [runX]
    by_cases h : p e = true
    · rw [if_pos h, List.filter_cons_of_pos h, runX]
      by_cases h0 : (t a e).2 = 0
      · rw [if_pos h0, if_pos h0, runX_filter t p l]
      · rw [if_neg h0, if_neg h0]
    · rw [if_neg h, if_pos rfl, List.filter_cons_of_neg h, runX_filter t p l]
theorem runX_flatMap (t : τ → α → τ × Nat) (g : β → List α) : ∀ (l : List β) (a : τ), runX (fun st k => runX t (g k) st) l a = runX t (l.flatMap g) a
  | [], a => rfl
  | b :: l, a => by
    rw [runX, List.flatMap_cons, runX_append, runX_flatMap t g l]
theorem runX_len (t : τ → α → τ × Nat) (len : τ → Nat) (ht : ∀ a e, len (t a e).1 ≤ len a + 1) : ∀ (l : List α) (a : τ), len (runX t l a).1 ≤ len a + l.length
  | [], a => Nat.le_refl _
  | e :: l, a => by
    rw [runX, List.length_cons]
    have h1 := ht a e
    by_cases h : (t a e).2 = 0
    · rw [if_pos h]
      have := runX_len t len ht l (t a e).1
      omega
    · rw [if_neg h]; omega
/-- A loop that is such a walk. -/
theorem iter_runX {S R : Type} [Big F] {f : S → Option (S ⊕ R)} (t : τ → α → τ × Nat) (l : List α) (enc : τ → Int → S) (o0 : τ → R) (o1 : τ → Nat → R) (a : τ) (hn : l.length ≤ 9223372036854775807) {s : S} (h0 : s = enc a 0)
    (hs : ∀ (k : Nat) (e : α) (st : τ), l[k]? = some e → runX t (l.take k) a = (st, 0) → f (enc st (k : Int)) = some (natCase (t st e).2 (.inl (enc (t st e).1 ((k : Int) + 1))) (fun n => .inr (o1 (t st e).1 n))))
    (he : ∀ st, runX t l a = (st, 0) → f (enc st (l.length : Int)) = some (.inr (o0 st))) :
    iter f F s = some (natCase (runX t l a).2 (o0 (runX t l a).1) (fun n => o1 (runX t l a).1 n)) := by
  subst h0
  have key : ∀ (m k N : Nat) (st : τ), k + m = l.length → m < N → runX t (l.take k) a = (st, 0) → iter f N (enc st (k : Int)) = some (natCase (runX t l a).2 (o0 (runX t l a).1) (fun n => o1 (runX t l a).1 n)) := by
    intro m
    induction m with
    | zero =>
      intro k N st hk hN hr
      obtain ⟨N, rfl⟩ : ∃ M, N = M + 1 := ⟨N - 1, by omega⟩
      rw [List.take_of_length_le (by omega)] at hr
      rw [iter, show k = l.length by omega, he st hr, hr]; rfl
    | succ m ih =>
      intro k N st hk hN hr
      obtain ⟨N, rfl⟩ : ∃ M, N = M + 1 := ⟨N - 1, by omega⟩
      have hkl : k < l.length := by omega
      have hg := List.getElem?_eq_getElem hkl
      have hsplit : runX t l a = runX t (l[k] :: l.drop (k + 1)) st := by
        have h1 := runX_append t (l.take k) (l.drop k) a
        rw [List.take_append_drop, hr, if_pos rfl, List.drop_eq_getElem_cons hkl] at h1
        exact h1
      rw [iter, hs k l[k] st hg hr]
      rw [runX] at hsplit
      cases hz : (t st l[k]).2 with
      | zero =>
        rw [natCase_zero]
        refine ih (k + 1) N _ (by omega) (by omega) ?_
        rw [List.take_add_one, hg, runX_append, hr, if_pos rfl]
        show runX t [l[k]] st = _
        rw [runX, if_pos hz]; rfl
      | succ n =>
        rw [if_neg (by omega)] at hsplit
        rw [natCase_succ, hsplit, hz, natCase_succ]
  exact key l.length 0 F a (by omega) (lt_big hn) rfl
end walks

/-! ### From a spot on -/
def geB (s : DSpot) (e : DElem) : Bool := decide (0 ≤ cmpS (spotE e) s)
def fromF (ns : List DNode) (s : DSpot) : Nat → Int → List DElem
  | 0, _ => []
  | m + 1, i => (nd ns i).elems.filter (geB s) ++ (if (nd ns i).kind = 1 then [] else ((nd ns i).kids.drop (wayR (nd ns i).seps s)).flatMap (fromF ns s m))
theorem fromF_sub (ns : List DNode) (s : DSpot) : ∀ (m : Nat) (i : Int), (fromF ns s m i).Sublist (elemsF ns m i) := by
  intro m
  induction m with
  | zero => intro i; exact List.Sublist.refl _
  | succ m ih =>
    intro i
    rw [fromF, elemsF]
    refine List.Sublist.append List.filter_sublist ?_
    split
    · exact List.nil_sublist _
    · have h1 : ∀ l : List Int, (l.flatMap (fromF ns s m)).Sublist (l.flatMap (elemsF ns m)) := by
        intro l
        induction l with
        | nil => exact List.Sublist.refl _
        | cons a l ihl => rw [List.flatMap_cons, List.flatMap_cons]; exact (ih a).append ihl
      refine (h1 _).trans ?_
      have h2 : ∀ (l : List Int) (k : Nat), ((l.drop k).flatMap (elemsF ns m)).Sublist (l.flatMap (elemsF ns m)) := by
        intro l k
        conv => rhs; rw [← List.take_append_drop k l, List.flatMap_append]
        exact List.sublist_append_right _ _
      exact h2 _ _
theorem filter_flatMap' {α β : Type} (p : β → Bool) (f : α → List β) : ∀ l : List α, (l.flatMap f).filter p = l.flatMap fun a => (f a).filter p
  | [] => rfl
  | a :: l => by rw [List.flatMap_cons, List.flatMap_cons, List.filter_append, filter_flatMap' p f l]
theorem fromF_eq {ns : List DNode} (hns : ∀ n ∈ ns, chkN n = 0) (s : DSpot) : ∀ (h m : Nat) (i d : Int) (sp : Span), okN ns h i d sp → h < m → fromF ns s m i = (elemsAt ns h i).filter (geB s) := by
  intro h
  induction h with
  | zero =>
    intro m i d sp hok hm
    obtain ⟨m, rfl⟩ : ∃ q, m = q + 1 := ⟨m - 1, by omega⟩
    rw [fromF, elemsAt, if_pos hok.2.1, List.append_nil]
  | succ h ih =>
    intro m i d sp hok hm
    obtain ⟨m, rfl⟩ : ∃ q, m = q + 1 := ⟨m - 1, by omega⟩
    have hI := (inner_of hns hok.1 hok.2.1).2
    rw [fromF, elemsAt, if_neg hok.2.1.2, hI.elems, List.filter_nil, List.nil_append, filter_flatMap']
    have hk : ∀ k ∈ (nd ns i).kids, fromF ns s m k = (elemsAt ns h k).filter (geB s) := fun k hk => by
      obtain ⟨q, hq⟩ := List.mem_iff_getElem?.1 hk
      exact ih m k _ _ (hok.2.2.2 (k, q) (zip_mem hq)).1 (by omega)
    have hcong : ∀ l : List Int, (∀ k ∈ l, k ∈ (nd ns i).kids) → l.flatMap (fromF ns s m) = l.flatMap fun k => (elemsAt ns h k).filter (geB s) := by
      intro l
      induction l with
      | nil => intro _; rfl
      | cons a l ihl => intro hl; rw [List.flatMap_cons, List.flatMap_cons, hk a (hl a List.mem_cons_self), ihl fun k hk => hl k (List.mem_cons_of_mem _ hk)]
    rw [hcong _ fun k hk => List.mem_of_mem_drop hk]
    have hnil : ((nd ns i).kids.take (wayR (nd ns i).seps s)).flatMap (fun k => (elemsAt ns h k).filter (geB s)) = [] := by
      rw [List.flatMap_eq_nil_iff]
      intro k hk
      rw [List.mem_take_iff_getElem] at hk
      obtain ⟨q, hq, rfl⟩ := hk
      rw [List.filter_eq_nil_iff]
      intro e he
      have hqk : (nd ns i).kids[q]? = some (nd ns i).kids[q] := List.getElem?_eq_getElem (by omega)
      have h1 := (hok.2.2.2 (_, q) (zip_mem hqk)).1
      have h2 := ((elems_sorted hns h _ _ _ h1).2 e he).1
      have hw := wayR_le (nd ns i).seps s
      have hx : (nd ns i).seps[q]? = some (nd ns i).seps[q] := List.getElem?_eq_getElem (by omega)
      have h3 := kidSp_hi hx h2
      have h4 := (wayR_at (nd ns i).seps s).1 q _ (by omega) hx
      have h5 := cmpS_lt_le h3 h4
      unfold geB
      rw [decide_eq_true_eq]
      omega
    conv => rhs; rw [← List.take_append_drop (wayR (nd ns i).seps s) (nd ns i).kids, List.flatMap_append, hnil, List.nil_append]
/-- The state of a walk, and where it may begin. -/
def preX {τ : Type} (ns : List DNode) (s : DSpot) (len : τ → Nat) (m : Nat) (x : τ × Int) : Prop := kidOk ns m x.2 ∧ len x.1 + (fromF ns s m x.2).length ≤ 100000
theorem preX_root {τ : Type} {t : DTree} {h : Nat} (hg : Good t h) (s : DSpot) (len : τ → Nat) (a : τ) (ha : len a = 0) {F : Nat} [Big F] : preX t.nodes s len F (a, t.root) := by
  have hF := (inferInstance : Big F).le
  have h4 := good_fuel hg
  refine ⟨⟨h, 0, topS, by omega, hg.ok⟩, ?_⟩
  dsimp only
  have h1 := (fromF_sub t.nodes s F t.root).length_le
  rw [elemsF_eq hg.chk h F t.root 0 topS hg.ok (by omega)] at h1
  have := good_small hg
  omega
theorem from_root {t : DTree} {h : Nat} (hg : Good t h) (s : DSpot) {F : Nat} [Big F] : fromF t.nodes s F t.root = (elemsAt t.nodes h t.root).filter (geB s) := by
  have hF := (inferInstance : Big F).le
  have h4 := good_fuel hg
  exact fromF_eq hg.chk s h F t.root 0 topS hg.ok (by omega)
/-- The bounds that hold within the loop over the records of a node. -/
theorem preX_elems {τ : Type} {ns : List DNode} {s : DSpot} {len : τ → Nat} {m : Nat} {a : τ} {i : Int} (h : preX ns s len (m + 1) (a, i)) {t : τ → DElem → τ × Nat} (ht : ∀ a e, len (t a e).1 ≤ len a + 1) {k : Nat} {e : DElem} (hk : (nd ns i).elems[k]? = some e) {st : τ}
    (hr : runX (fun st e => if geB s e then t st e else (st, 0)) ((nd ns i).elems.take k) a = (st, 0)) : len st ≤ 100000 := by
  rw [runX_filter] at hr
  have h1 := runX_len t len ht (((nd ns i).elems.take k).filter (geB s)) a
  rw [hr] at h1
  have h2 := h.2
  dsimp only at h1 h2
  rw [fromF, List.length_append] at h2
  have h3 := (List.Sublist.filter (geB s) (List.take_sublist k (nd ns i).elems)).length_le
  omega
/-- And those within the loop over its kids. -/
theorem preX_kid {τ : Type} {ns : List DNode} (hns : ∀ n ∈ ns, chkN n = 0) {s : DSpot} {len : τ → Nat} {m : Nat} {a b : τ} {i : Int} (h : preX ns s len (m + 1) (a, i)) (h1 : (nd ns i).kind ≠ 1) {t : τ → DElem → τ × Nat} (ht : ∀ a e, len (t a e).1 ≤ len a + 1)
    (hb : runX t ((nd ns i).elems.filter (geB s)) a = (b, 0)) {k : Nat} {e : Int} (hk : ((nd ns i).kids.drop (wayR (nd ns i).seps s))[k]? = some e) {st : τ}
    (hr : runX (fun st k => runX t (fromF ns s m k) st) (((nd ns i).kids.drop (wayR (nd ns i).seps s)).take k) b = (st, 0)) : preX ns s len m (st, e) := by
  have hkids := (h.1.kids hns).2
  refine ⟨hkids e (List.mem_of_mem_drop (List.mem_of_getElem? hk)), ?_⟩
  rw [runX_flatMap] at hr
  have q1 := runX_len t len ht ((nd ns i).elems.filter (geB s)) a
  rw [hb] at q1
  have q2 := runX_len t len ht ((((nd ns i).kids.drop (wayR (nd ns i).seps s)).take k).flatMap (fromF ns s m)) b
  rw [hr] at q2
  have h2 := h.2
  dsimp only at q1 q2 h2 ⊢
  rw [fromF, if_neg h1, List.length_append] at h2
  obtain ⟨hkl, rfl⟩ := List.getElem?_eq_some_iff.1 hk
  have h3 : (((nd ns i).kids.drop (wayR (nd ns i).seps s)).flatMap (fromF ns s m)).length = ((((nd ns i).kids.drop (wayR (nd ns i).seps s)).take k).flatMap (fromF ns s m)).length + (((((nd ns i).kids.drop (wayR (nd ns i).seps s)).drop k)).flatMap (fromF ns s m)).length := by
    rw [← List.length_append, ← List.flatMap_append, List.take_append_drop]
  rw [List.drop_eq_getElem_cons hkl, List.flatMap_cons, List.length_append] at h3
  omega
theorem way_le {ns : List DNode} {i : Int} (hI : Inner (nd ns i)) (s : DSpot) : wayR (nd ns i).seps s ≤ (nd ns i).kids.length := by
  have := wayR_le (nd ns i).seps s
  have := hI.seps
  omega
end Go.Proofs.Ytoaopihihccfkaa
