/- Trees that a call has made and may still write: the row of the nodes' headers, and behind it, at the end of the list of objects, the rows of all nodes that are not taken out. Its conditions: none. -/
import Derived.Test.YtacjdfhllomccaaGreatDoorLocalJ
import Derived.Test.YtacjdfhllomccaaGreatDoorRangeJ
namespace Go.Proofs.YtacjdfhllomccaaGreatDoor
open Go.RowKit
set_option linter.unusedVariables false
structure DHdr where
 kind : Int
 a1 : Option Addr
 n1 : Nat
 c1 : Nat
 a2 : Option Addr
 n2 : Nat
 c2 : Nat
 a3 : Option Addr
 n3 : Nat
 c3 : Nat
 a4 : Option Addr
 n4 : Nat
 c4 : Nat
abbrev DHdr.cells (h : DHdr) : List Value := [.int .i64 h.kind, .slice h.a1 h.n1 h.c1, .slice h.a2 h.n2 h.c2, .slice h.a3 h.n3 h.c3, .slice h.a4 h.n4 h.c4]
def eHdr : Enc DHdr := eFlat 5 DHdr.cells (fun _ => rfl) (fun _ => one_of rfl)
structure Fits (h : DHdr) (n : DNode) : Prop where
 kind : h.kind = n.kind
 n1 : h.n1 = n.elems.length
 n2 : h.n2 = n.kids.length
 n3 : h.n3 = n.seps.length
 n4 : h.n4 = n.tids.length
def pureO (p : Prop) : HObj where
 own := fun _ => False
 ok := fun _ _ => p
 loc := fun _ _ _ _ h => h
 mono := fun _ _ _ _ h => h
 lt := fun _ _ _ _ h => by cases h
structure TreeTy where
 te : TypeId
 ti : TypeId
 ts : TypeId
def nodeRows (ty : TreeTy) (h : DHdr) (n : DNode) : List HObj := [row ty.te eElem h.a1 h.c1 n.elems, row ty.ti eInt h.a2 h.c2 n.kids, row ty.ts eSpot h.a3 h.c3 n.seps, row ty.ti eInt h.a4 h.c4 n.tids]
def rowsL (ty : TreeTy) : List DHdr → List (Int ⊕ DNode) → List HObj
 | h :: hs, .inr n :: ns => pureO (Fits h n) :: (nodeRows ty h n ++ rowsL ty hs ns)
 | _ :: hs, .inl _ :: ns => rowsL ty hs ns
 | _, _ => []
def Apart (x y : HObj) : Prop := ∀ b, x.own b → ¬ y.own b
structure LenK (hs : List DHdr) (ns : List (Int ⊕ DNode)) : Prop where
 len : hs.length = ns.length
 kinds : ∀ (i : Nat) (k : Int), ns[i]? = some (.inl k) → ∃ h, hs[i]? = some h ∧ h.kind = k
theorem LenK.nil : LenK [] [] := ⟨rfl, fun i k h => by simp at h⟩
theorem LenK.inl {hs : List DHdr} {ns : List (Int ⊕ DNode)} (h : LenK hs ns) {i : Nat} {x : DHdr} {k : Int} (hx : hs[i]? = some x) (hk : x.kind = k) : LenK hs (ns.set i (.inl k)) := ⟨by rw [List.length_set]; exact h.len, fun j q hq => by
 rw [List.getElem?_set] at hq
 split at hq
 · rename_i e; subst e
   split at hq
   · obtain rfl : k = q := by simpa using hq
     exact ⟨x, hx, hk⟩
   · cases hq
 · exact h.kinds j q hq⟩
theorem LenK.inr {hs : List DHdr} {ns : List (Int ⊕ DNode)} (h : LenK hs ns) (i : Nat) (n : DNode) : LenK hs (ns.set i (.inr n)) := ⟨by rw [List.length_set]; exact h.len, fun j q hq => by
 rw [List.getElem?_set] at hq
 split at hq
 · split at hq
   · cases hq
   · cases hq
 · exact h.kinds j q hq⟩
theorem LenK.push {hs : List DHdr} {ns : List (Int ⊕ DNode)} (h : LenK hs ns) (x : DHdr) (n : DNode) : LenK (hs ++ [x]) (ns ++ [.inr n]) := ⟨by simp [h.len], fun j q hq => by
 rcases Nat.lt_or_ge j ns.length with hlt | hge
 · rw [List.getElem?_append_left hlt] at hq
   obtain ⟨y, hy, hk⟩ := h.kinds j q hq
   exact ⟨y, by rw [List.getElem?_append_left (by have := h.len; omega)]; exact hy, hk⟩
 · rw [List.getElem?_append_right hge] at hq
   cases hj : j - ns.length with
   | zero => rw [hj] at hq; simp at hq
   | succ m => rw [hj] at hq; simp at hq⟩
def treeo (ty : TreeTy) (hs : List DHdr) (ns : List (Int ⊕ DNode)) : HObj where
 own := fun b => ∃ x ∈ rowsL ty hs ns, x.own b
 ok := fun V w => LenK hs ns ∧ (∀ x ∈ rowsL ty hs ns, x.ok V w) ∧ (rowsL ty hs ns).Pairwise Apart
 loc := fun V w w' hb ⟨h1, h2, h3⟩ => ⟨h1, fun x hx => x.loc V w w' (fun b hxb => hb b ⟨x, hx, hxb⟩) (h2 x hx), h3⟩
 mono := fun V V' w hv ⟨h1, h2, h3⟩ => ⟨h1, fun x hx => x.mono V V' w hv (h2 x hx), h3⟩
 lt := fun V w b ⟨_, h2, _⟩ ⟨x, hx, hb⟩ => x.lt V w b (h2 x hx) hb
theorem rowsL_split (ty : TreeTy) : ∀ (hs : List DHdr) (ns : List (Int ⊕ DNode)) (i : Nat) (h : DHdr) (n : DNode) (q : Int), hs[i]? = some h → ns[i]? = some (.inr n) → (rowsL ty hs ns).Perm (pureO (Fits h n) :: (nodeRows ty h n ++ rowsL ty hs (ns.set i (.inl q))))
 | [], _, i, h, n, _, h1, _ => by simp at h1
 | _, [], i, h, n, _, _, h2 => by simp at h2
 | a :: hs, m :: ns, 0, h, n, q, h1, h2 => by
  obtain rfl : a = h := by simpa using h1
  obtain rfl : m = .inr n := by simpa using h2
  exact List.Perm.refl _
 | a :: hs, m :: ns, i + 1, h, n, q, h1, h2 => by
  have ih := rowsL_split ty hs ns i h n q (by simpa using h1) (by simpa using h2)
  cases m with
  | inl _ => exact ih
  | inr m =>
   show (pureO (Fits a m) :: (nodeRows ty a m ++ rowsL ty hs ns)).Perm (pureO (Fits h n) :: (nodeRows ty h n ++ (pureO (Fits a m) :: (nodeRows ty a m ++ rowsL ty hs (ns.set i (.inl q))))))
   have h3 := (ih.append_left (pureO (Fits a m) :: nodeRows ty a m))
   refine h3.trans ?_
   show ((pureO (Fits a m) :: nodeRows ty a m) ++ ((pureO (Fits h n) :: nodeRows ty h n) ++ rowsL ty hs (ns.set i (.inl q)))).Perm ((pureO (Fits h n) :: nodeRows ty h n) ++ ((pureO (Fits a m) :: nodeRows ty a m) ++ rowsL ty hs (ns.set i (.inl q))))
   rw [← List.append_assoc, ← List.append_assoc]
   exact List.Perm.append_right _ List.perm_append_comm
theorem rowsL_drop (ty : TreeTy) : ∀ (hs : List DHdr) (ns : List (Int ⊕ DNode)) (i : Nat) (q : Int), (rowsL ty hs (ns.set i (.inl q))).Sublist (rowsL ty hs ns)
 | [], ns, i, q => by cases ns <;> simp [rowsL]
 | _ :: _, [], i, q => by simp [rowsL]
 | a :: hs, m :: ns, 0, q => by
  cases m with
  | inl _ => exact List.Sublist.refl _
  | inr m => exact (List.sublist_append_right (pureO (Fits a m) :: nodeRows ty a m) _)
 | a :: hs, m :: ns, i + 1, q => by
  have ih := rowsL_drop ty hs ns i q
  cases m with
  | inl _ => exact ih
  | inr m => exact (List.Sublist.refl (pureO (Fits a m) :: nodeRows ty a m)).append ih
theorem Hp.put {w0 : World} {V : View} {H : List HObj} {w : World} {p : Prop} (h : Hp w0 V H w) (hp : p) : Hp w0 V (pureO p :: H) w :=
 ⟨h.os, h.tape, h.output, h.size, h.view, h.base, fun x hx => by
  rcases List.mem_cons.1 hx with rfl | hx
  · exact hp
  · exact h.objs x hx, fun x hx b hb => by
  rcases List.mem_cons.1 hx with rfl | hx
  · cases hb
  · exact h.apart x hx b hb, List.Pairwise.cons (fun y _ b hb => by cases hb) h.sep⟩
def inN : Int ⊕ DNode → Option DNode
 | .inl _ => none
 | .inr n => some n
def kindN : Int ⊕ DNode → Int
 | .inl k => k
 | .inr n => n.kind
def nodeAt (ns : List (Int ⊕ DNode)) (i : Int) : Option DNode := if i < 0 then none else (ns[i.toNat]?).bind inN
def outAt (ns : List (Int ⊕ DNode)) (i : Int) : List (Int ⊕ DNode) := ns.set i.toNat (.inl (((ns[i.toNat]?).map kindN).getD 0))
theorem nodeAt_some {ns : List (Int ⊕ DNode)} {i : Int} {n : DNode} (h : nodeAt ns i = some n) : 0 ≤ i ∧ ns[i.toNat]? = some (.inr n) := by
 unfold nodeAt at h
 split at h
 · cases h
 · refine ⟨by omega, ?_⟩
   cases hx : ns[i.toNat]? with
   | none => rw [hx] at h; cases h
   | some m =>
    rw [hx] at h
    cases m with
    | inl k => cases h
    | inr m =>
     obtain rfl : m = n := by simpa [inN] using h
     rfl
structure TreeOk (hs : List DHdr) (ns : List (Int ⊕ DNode)) : Prop where
 lenk : LenK hs ns
 fits : ∀ (i : Nat) (n : DNode), ns[i]? = some (.inr n) → ∃ h, hs[i]? = some h ∧ Fits h n
theorem TreeOk.len {hs : List DHdr} {ns : List (Int ⊕ DNode)} (h : TreeOk hs ns) : hs.length = ns.length := h.lenk.len
theorem rowsL_fits {ty : TreeTy} {V : View} {w : World} : ∀ (hs : List DHdr) (ns : List (Int ⊕ DNode)), (∀ x ∈ rowsL ty hs ns, x.ok V w) → hs.length = ns.length → ∀ (i : Nat) (n : DNode), ns[i]? = some (.inr n) → ∃ h, hs[i]? = some h ∧ Fits h n := fun hs ns hok hl i n hn => by
 have hi := (List.getElem?_eq_some_iff.1 hn).1
 have hh : hs[i]? = some (hs[i]'(by omega)) := List.getElem?_eq_getElem (by omega)
 exact ⟨_, hh, hok _ ((rowsL_split ty hs ns i _ n 0 hh hn).mem_iff.2 List.mem_cons_self)⟩
theorem TreeOk.of {ty : TreeTy} {V : View} {w : World} {hs : List DHdr} {ns : List (Int ⊕ DNode)} (h : (treeo ty hs ns).ok V w) : TreeOk hs ns := ⟨h.1, rowsL_fits hs ns h.2.1 h.1.len⟩
theorem Hp.opened {w0 : World} {V : View} {X : List HObj} {w : World} {ty : TreeTy} {hs : List DHdr} {ns : List (Int ⊕ DNode)} (h : Hp w0 V (treeo ty hs ns :: X) w) : LenK hs ns ∧ Hp w0 V (rowsL ty hs ns ++ X) w := by
 obtain ⟨h1, h2, h3⟩ := h.objs _ List.mem_cons_self
 have hs' := List.pairwise_cons.1 h.sep
 refine ⟨h1, h.os, h.tape, h.output, h.size, h.view, h.base, fun x hx => ?_, fun x hx b hb => ?_, ?_⟩
 · rcases List.mem_append.1 hx with hx | hx
   · exact h2 x hx
   · exact h.objs x (List.mem_cons_of_mem _ hx)
 · rcases List.mem_append.1 hx with hx | hx
   · exact h.apart _ List.mem_cons_self b ⟨x, hx, hb⟩
   · exact h.apart x (List.mem_cons_of_mem _ hx) b hb
 · exact List.pairwise_append.2 ⟨h3, hs'.2, fun x hx y hy b hb => hs'.1 y hy b ⟨x, hx, hb⟩⟩
theorem Hp.closed {w0 : World} {V : View} {X : List HObj} {w : World} {ty : TreeTy} {hs : List DHdr} {ns : List (Int ⊕ DNode)} (hl : LenK hs ns) (h : Hp w0 V (rowsL ty hs ns ++ X) w) : Hp w0 V (treeo ty hs ns :: X) w := by
 obtain ⟨p1, p2, p3⟩ := List.pairwise_append.1 h.sep
 refine ⟨h.os, h.tape, h.output, h.size, h.view, h.base, fun x hx => ?_, fun x hx b hb => ?_, ?_⟩
 · rcases List.mem_cons.1 hx with rfl | hx
   · exact ⟨hl, fun x hx => h.objs x (List.mem_append_left _ hx), p1⟩
   · exact h.objs x (List.mem_append_right _ hx)
 · rcases List.mem_cons.1 hx with rfl | hx
   · obtain ⟨y, hy, hb⟩ := hb
     exact h.apart y (List.mem_append_left _ hy) b hb
   · exact h.apart x (List.mem_append_right _ hx) b hb
 · refine List.Pairwise.cons (fun y hy b hb => ?_) p2
   obtain ⟨x, hx, hb⟩ := hb
   exact p3 x hx y hy b hb
theorem TreeOk.at_ {hs : List DHdr} {ns : List (Int ⊕ DNode)} (h : TreeOk hs ns) {i : Int} {n : DNode} (hn : nodeAt ns i = some n) :
 ∃ a1 c1 a2 c2 a3 c3 a4 c4, 0 ≤ i ∧ i < (hs.length : Int) ∧ hs[i.toNat]? = some ⟨n.kind, a1, n.elems.length, c1, a2, n.kids.length, c2, a3, n.seps.length, c3, a4, n.tids.length, c4⟩ := by
 obtain ⟨h0, h1⟩ := nodeAt_some hn
 obtain ⟨⟨k, a1, n1, c1, a2, n2, c2, a3, n3, c3, a4, n4, c4⟩, h2, f1, f2, f3, f4, f5⟩ := h.fits _ _ h1
 dsimp only at f1 f2 f3 f4 f5
 subst f1 f2 f3 f4 f5
 exact ⟨a1, c1, a2, c2, a3, c3, a4, c4, h0, by have := (List.getElem?_eq_some_iff.1 h2).1; omega, h2⟩
section
variable {N : Sz} {w0 : World} {V : View} {H X H' : List HObj} {M : List (Nat × Value)} {φ : Act → World → Prop} {ty : TreeTy} {hs : List DHdr} {ns : List (Int ⊕ DNode)} {k : Int} {n : DNode} {h : DHdr}
theorem perm_idx {α : Type} : ∀ (l : List α) (i : Nat) (x : α), l[i]? = some x → l.Perm (x :: l.eraseIdx i)
 | [], _, _, h => by simp at h
 | a :: l, 0, x, h => by
  obtain rfl : a = x := by simpa using h
  exact List.Perm.refl _
 | a :: l, i + 1, x, h => ((perm_idx l i x (by simpa using h)).cons a).trans (List.Perm.swap _ _ _)
theorem perm_idx_set {α : Type} : ∀ (l : List α) (i : Nat) (x y : α), l[i]? = some x → (l.set i y).Perm (y :: l.eraseIdx i)
 | [], _, _, _, h => by simp at h
 | a :: l, 0, x, y, h => List.Perm.refl _
 | a :: l, i + 1, x, y, h => ((perm_idx_set l i x y (by simpa using h)).cons a).trans (List.Perm.swap _ _ _)
theorem perm_at {i : Nat} {x : HObj} (hi : nth H i = some x) : H.Perm (x :: H.eraseIdx i) := by
 rw [nth_eq] at hi; exact perm_idx H i x hi
theorem perm_set {i : Nat} {x y : HObj} (hi : nth H i = some x) : (H.set i y).Perm (y :: H.eraseIdx i) := by
 rw [nth_eq] at hi; exact perm_idx_set H i x y hi
theorem T.takeN (i : Nat) (hi : nth H i = some (treeo ty hs ns)) (hn : nodeAt ns k = some n) (hh : hs[k.toNat]? = some h) (hH : H.set i (treeo ty hs (outAt ns k)) = H')
 (q : T N w0 V (row ty.te eElem h.a1 h.c1 n.elems :: row ty.ti eInt h.a2 h.c2 n.kids :: row ty.ts eSpot h.a3 h.c3 n.seps :: row ty.ti eInt h.a4 h.c4 n.tids :: H') M φ) : T N w0 V H M φ := fun a w hf hp => by
 subst hH
 obtain ⟨h0, h1⟩ := nodeAt_some hn
 refine q a w hf ?_
 obtain ⟨hl, h2⟩ := (hp.perm (perm_at hi)).opened
 have h3 := h2.perm (List.Perm.append_right _ (rowsL_split ty hs ns k.toNat h n (((ns[k.toNat]?).map kindN).getD 0) hh h1))
 have hfit : Fits h n := h3.objs _ List.mem_cons_self
 have h4 := (h3.sub (H' := nodeRows ty h n ++ rowsL ty hs (outAt ns k) ++ H.eraseIdx i) (.cons _ (List.Sublist.refl _)))
 have h5 : Hp w0 V (rowsL ty hs (outAt ns k) ++ (nodeRows ty h n ++ H.eraseIdx i)) w := h4.perm (by rw [← List.append_assoc]; exact List.Perm.append_right _ List.perm_append_comm)
 have h6 := Hp.closed (show LenK hs (outAt ns k) from hl.inl hh (by rw [h1]; exact hfit.kind)) h5
 refine h6.perm ?_
 have e1 : (treeo ty hs (outAt ns k) :: (nodeRows ty h n ++ H.eraseIdx i)).Perm (nodeRows ty h n ++ (treeo ty hs (outAt ns k) :: H.eraseIdx i)) := List.perm_middle.symm
 exact e1.trans ((perm_set hi).symm.append_left (nodeRows ty h n))
theorem T.dropN (i : Nat) (k : Int) (hi : nth H i = some (treeo ty hs ns)) (hH : H.set i (treeo ty hs (outAt ns k)) = H') (q : T N w0 V H' M φ) : T N w0 V H M φ := fun a w hf hp => by
 subst hH
 refine q a w hf ?_
 have ht := TreeOk.of (hp.objs _ (by rw [nth_eq] at hi; exact List.mem_of_getElem? hi))
 obtain ⟨hl, h2⟩ := (hp.perm (perm_at hi)).opened
 have h3 := h2.sub (H' := rowsL ty hs (outAt ns k) ++ H.eraseIdx i) ((rowsL_drop ty hs ns k.toNat _).append (List.Sublist.refl _))
 refine (Hp.closed ?_ h3).perm (perm_set hi).symm
 unfold outAt
 cases hx : ns[k.toNat]? with
 | none =>
  rw [List.set_eq_of_length_le (List.getElem?_eq_none_iff.1 hx)]; exact hl
 | some x =>
  cases x with
  | inl q =>
   obtain ⟨e, he, hk⟩ := hl.kinds _ _ hx
   exact hl.inl he hk
  | inr n =>
   obtain ⟨e, he, hf⟩ := ht.fits _ _ hx
   exact hl.inl he hf.kind
end
section
variable {P : Program} {N : Sz} {w0 : World} {V : View} {H : List HObj} {M : List (Nat × Value)} {ops : Array Oper} {Q : Exit → Act → World → Prop} {o : Oper} {K : Act → World → Prop}
end
def hasAt (ns : List (Int ⊕ DNode)) (i : Int) : Option Unit := if 0 ≤ i ∧ i < (ns.length : Int) then some () else none
theorem TreeOk.has {hs : List DHdr} {ns : List (Int ⊕ DNode)} (h : TreeOk hs ns) {i : Int} {u : Unit} (hn : hasAt ns i = some u) : 0 ≤ i ∧ i < (hs.length : Int) ∧ ∃ x, hs[i.toNat]? = some x := by
 unfold hasAt at hn
 split at hn
 · rename_i hi
   have := h.len
   exact ⟨hi.1, by omega, _, List.getElem?_eq_getElem (by omega)⟩
 · cases hn
section
variable {N : Sz} {w0 : World} {V : View} {H X H' : List HObj} {M : List (Nat × Value)} {φ : Act → World → Prop} {ty : TreeTy} {hs : List DHdr} {ns : List (Int ⊕ DNode)} {k : Int} {n : DNode} {h : DHdr}
theorem T.litrow {α : Type} {E : Enc α} {f : α → List Value} {l : List α} {b t : Nat} (i : Nat) (H' : List HObj) (hi : nth H i = some (box b t (l.flatMap f))) (hf : ∀ V x, E.rep V (f x) x) (hl : 0 < l.length) (hm : l.length ≤ maxLen) (hH : H.set i (row t E (some ⟨b, 0, none⟩) l.length l) = H')
 (q : T N w0 V H' M φ) : T N w0 V H M φ := fun a w hfr hh => by
 rw [nth_eq] at hi
 have hbox : w.heap[b]? = some (.cells (l.flatMap f).toArray t (0, 0)) := hh.objs _ (List.mem_of_getElem? hi)
 have hrep : RowRep V E (l.flatMap f) l := rowrep_flat hf l
 have hlen := hrep.1
 have hblk : rowblk (some (⟨b, 0, none⟩ : Addr)) l.length = some b := by unfold rowblk; rw [if_neg (by omega)]; rfl
 refine q a w hfr (hH ▸ hh.turn (o := none) hi ⟨rfl, rfl, rfl, Nat.le_refl _, fun _ _ _ => rfl⟩ ?_ (fun b' hb' => .inl ?_))
 · exact ⟨Nat.le_refl _, hm, .inr ⟨b, _, _, (l.flatMap f), ⟨rfl, hbox, fun _ => rfl, fun i _ h => by simp at h, by rw [List.size_toArray, hlen], by rw [← hlen, List.take_length], hrep⟩⟩⟩
 · exact hblk.symm.trans hb'
end
end Go.Proofs.YtacjdfhllomccaaGreatDoor
