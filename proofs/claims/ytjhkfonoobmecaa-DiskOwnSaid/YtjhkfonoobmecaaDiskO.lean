/- Disks that a call has made and may still write, as many as there are: the row of their headers, and one object that holds the rows of all of them. Its conditions: none. -/
import Derived.Test.YtjhkfonoobmecaaSpoil
namespace Go.Proofs.Ytjhkfonoobmecaa
open Go.RowKit
set_option linter.unusedVariables false
set_option linter.unusedSimpArgs false

instance : Steady eWrite := ⟨fun _ _ _ _ h => h⟩
structure DDH where
  a1 : Option Addr
  n1 : Nat
  c1 : Nat
  a2 : Option Addr
  n2 : Nat
  c2 : Nat
abbrev DDH.cells (h : DDH) : List Value := [.slice h.a1 h.n1 h.c1, .slice h.a2 h.n2 h.c2]
def eDDH : Enc DDH := eFlat 2 DDH.cells (fun _ => rfl) (fun _ => one_of rfl)
instance : Steady eDDH := ⟨fun _ _ _ _ h => h⟩
def FitD (h : DDH) (d : DDisk) : Prop := h.n1 = d.pages.length ∧ h.n2 = d.writes.length
abbrev rowsOne (h : DDH) (d : DDisk) : List HObj := [row 9 eStr h.a1 h.c1 d.pages, row 29 eWrite h.a2 h.c2 d.writes]
def rowsD : List DDH → List DDisk → List HObj
  | h :: hs, d :: ds => pureO (FitD h d) :: row 9 eStr h.a1 h.c1 d.pages :: row 29 eWrite h.a2 h.c2 d.writes :: rowsD hs ds
  | _, _ => []
/-- The rows of all disks of a list, as one object. -/
def diskso (hs : List DDH) (ds : List DDisk) : HObj where
  own := fun b => ∃ x ∈ rowsD hs ds, x.own b
  ok := fun V w => hs.length = ds.length ∧ (∀ x ∈ rowsD hs ds, x.ok V w) ∧ (rowsD hs ds).Pairwise Apart
  loc := fun V w w' hb ⟨h1, h2, h3⟩ => ⟨h1, fun x hx => x.loc V w w' (fun b hxb => hb b ⟨x, hx, hxb⟩) (h2 x hx), h3⟩
  mono := fun V V' w hv ⟨h1, h2, h3⟩ => ⟨h1, fun x hx => x.mono V V' w hv (h2 x hx), h3⟩
  lt := fun V w b ⟨_, h2, _⟩ ⟨x, hx, hb⟩ => x.lt V w b (h2 x hx) hb
theorem Hp.openedD {w0 : World} {V : View} {X : List HObj} {w : World} {hs : List DDH} {ds : List DDisk} (h : Hp w0 V (diskso hs ds :: X) w) : hs.length = ds.length ∧ Hp w0 V (rowsD hs ds ++ X) w := by
  obtain ⟨h1, h2, h3⟩ := h.objs _ List.mem_cons_self
  have hs' := List.pairwise_cons.1 h.sep
  refine ⟨h1, h.os, h.tape, h.output, h.size, h.view, h.base, fun x hx => ?_, fun x hx b hb => ?_, ?_⟩
  · rcases List.mem_append.1 hx with hx | hx
    · exact h2 x hx
    · exact h.objs x (List.mem_cons_of_mem _ hx)
  · rcases List.mem_append.1 hx with hx | hx
    · exact h.apart _ List.mem_cons_self b ⟨x, hx, hb⟩
    · exact h.apart x (List.mem_cons_of_mem _ hx) b hb
  · exact List.pairwise_append.2 ⟨h3, hs'.2, fun x hx y hy b hb => hs'.1 y hy b ⟨x, hx, hb⟩⟩
theorem Hp.closedD {w0 : World} {V : View} {X : List HObj} {w : World} {hs : List DDH} {ds : List DDisk} (hl : hs.length = ds.length) (h : Hp w0 V (rowsD hs ds ++ X) w) : Hp w0 V (diskso hs ds :: X) w := by
  obtain ⟨p1, p2, p3⟩ := List.pairwise_append.1 h.sep
  refine ⟨h.os, h.tape, h.output, h.size, h.view, h.base, fun x hx => ?_, fun x hx b hb => ?_, ?_⟩
  · rcases List.mem_cons.1 hx with rfl | hx
    · exact ⟨hl, fun x hx => h.objs x (List.mem_append_left _ hx), p1⟩
    · exact h.objs x (List.mem_append_right _ hx)
  · rcases List.mem_cons.1 hx with rfl | hx
    · obtain ⟨y, hy, hb⟩ := hb
      exact h.apart y (List.mem_append_left _ hy) b hb
    · exact h.apart x (List.mem_append_right _ hx) b hb
  · refine List.Pairwise.cons (fun y hy b hb => ?_) p2
    obtain ⟨x, hx, hb⟩ := hb
    exact p3 x hx y hy b hb
theorem rowsD_append : ∀ (hs : List DDH) (ds : List DDisk) (h : DDH) (d : DDisk), hs.length = ds.length → rowsD (hs ++ [h]) (ds ++ [d]) = rowsD hs ds ++ rowsD [h] [d]
  | [], [], h, d, _ => rfl
  | [], _ :: _, h, d, hl => by simp at hl
  | _ :: _, [], h, d, hl => by simp at hl
  | a :: hs, x :: ds, h, d, hl => by
    have ih := rowsD_append hs ds h d (by simpa using hl)
    show pureO (FitD a x) :: row 9 eStr a.a1 a.c1 x.pages :: row 29 eWrite a.a2 a.c2 x.writes :: rowsD (hs ++ [h]) (ds ++ [d]) = _
    rw [ih]; rfl
theorem flat_rowsD : ∀ (hs : List DDH) (ds : List DDisk), ∀ x ∈ rowsD hs ds, Flat x
  | [], ds, x, hx => by cases ds <;> simp [rowsD] at hx
  | _ :: _, [], x, hx => by simp [rowsD] at hx
  | a :: hs, m :: ds, x, hx => by
    rcases List.mem_cons.1 hx with rfl | hx
    · exact fun _ _ _ h => h
    rcases List.mem_cons.1 hx with rfl | hx
    · exact flat_row fun _ _ _ _ h => h
    rcases List.mem_cons.1 hx with rfl | hx
    · exact flat_row fun _ _ _ _ h => h
    · exact flat_rowsD hs ds x hx
theorem flat_disks (hs : List DDH) (ds : List DDisk) : Flat (diskso hs ds) := fun V V' w ⟨h1, h2, h3⟩ => ⟨h1, fun x hx => flat_rowsD hs ds x hx V V' w (h2 x hx), h3⟩
/-- No disks. -/
theorem Hp.nilD {w0 : World} {V : View} {X : List HObj} {w : World} (h : Hp w0 V X w) : Hp w0 V (diskso [] [] :: X) w := Hp.closedD rfl h
/-- One disk more, behind. -/
theorem Hp.pushD {w0 : World} {V : View} {X : List HObj} {w : World} {hs : List DDH} {ds : List DDisk} {h : DDH} {d : DDisk} (hf : FitD h d) (hp : Hp w0 V (row 9 eStr h.a1 h.c1 d.pages :: row 29 eWrite h.a2 h.c2 d.writes :: diskso hs ds :: X) w) :
    Hp w0 V (diskso (hs ++ [h]) (ds ++ [d]) :: X) w := by
  have h1 : Hp w0 V (diskso hs ds :: (rowsOne h d ++ X)) w := hp.perm (List.perm_middle (l₁ := rowsOne h d) (l₂ := X))
  obtain ⟨hl, h2⟩ := h1.openedD
  refine Hp.closedD (by simp [hl]) ?_
  rw [rowsD_append hs ds h d hl]
  have h3 := h2.put hf
  refine h3.perm ?_
  show (pureO (FitD h d) :: (rowsD hs ds ++ (rowsOne h d ++ X))).Perm (rowsD hs ds ++ (pureO (FitD h d) :: rowsOne h d) ++ X)
  rw [List.append_assoc]
  exact List.perm_middle.symm
/-- One disk more, in front. -/
theorem Hp.consD {w0 : World} {V : View} {X : List HObj} {w : World} {hs : List DDH} {ds : List DDisk} {h : DDH} {d : DDisk} (hf : FitD h d) (hp : Hp w0 V (row 9 eStr h.a1 h.c1 d.pages :: row 29 eWrite h.a2 h.c2 d.writes :: diskso hs ds :: X) w) :
    Hp w0 V (diskso (h :: hs) (d :: ds) :: X) w := by
  have h1 : Hp w0 V (diskso hs ds :: (rowsOne h d ++ X)) w := hp.perm (List.perm_middle (l₁ := rowsOne h d) (l₂ := X))
  obtain ⟨hl, h2⟩ := h1.openedD
  refine Hp.closedD (by simp [hl]) ?_
  refine (h2.put hf).perm ?_
  show (pureO (FitD h d) :: (rowsD hs ds ++ (rowsOne h d ++ X))).Perm ((pureO (FitD h d) :: (rowsOne h d ++ rowsD hs ds)) ++ X)
  refine List.Perm.cons _ ?_
  rw [← List.append_assoc]
  exact List.Perm.append_right _ List.perm_append_comm
/-- The first disk is taken out. -/
theorem Hp.popD {w0 : World} {V : View} {X : List HObj} {w : World} {hs : List DDH} {ds : List DDisk} {h : DDH} {d : DDisk} (hp : Hp w0 V (diskso (h :: hs) (d :: ds) :: X) w) :
    FitD h d ∧ Hp w0 V (row 9 eStr h.a1 h.c1 d.pages :: row 29 eWrite h.a2 h.c2 d.writes :: diskso hs ds :: X) w := by
  obtain ⟨hl, h2⟩ := hp.openedD
  have hf : FitD h d := h2.objs (pureO (FitD h d)) List.mem_cons_self
  refine ⟨hf, ?_⟩
  have h3 : Hp w0 V (rowsOne h d ++ (rowsD hs ds ++ X)) w := h2.sub (.cons _ (List.Sublist.refl _))
  have h4 : Hp w0 V (rowsD hs ds ++ (rowsOne h d ++ X)) w := h3.perm (by
    rw [← List.append_assoc, ← List.append_assoc]; exact List.Perm.append_right _ List.perm_append_comm)
  exact (Hp.closedD (by simpa using hl) h4).perm (List.perm_middle (l₁ := rowsOne h d) (l₂ := X)).symm
/-- A disk is looked at. -/
theorem Hp.lookD {w0 : World} {V : View} : ∀ {hs : List DDH} {ds : List DDisk} {k : Nat} {X : List HObj} {w : World} {h : DDH} {d : DDisk}, Hp w0 V (diskso hs ds :: X) w → hs[k]? = some h → ds[k]? = some d →
    FitD h d ∧ SlOk (vw w) eStr h.a1 h.c1 d.pages ∧ SlOk (vw w) eWrite h.a2 h.c2 d.writes
  | [], _, _, _, _, _, _, _, h1, _ => by simp at h1
  | _ :: _, [], _, _, _, _, _, _, _, h2 => by simp at h2
  | a :: hs, m :: ds, 0, X, w, h, d, hp, h1, h2 => by
    obtain rfl : a = h := by simpa using h1
    obtain rfl : m = d := by simpa using h2
    obtain ⟨hf, h3⟩ := hp.popD
    exact ⟨hf, h3.row_slOk (i := 0) rfl, h3.row_slOk (i := 1) rfl⟩
  | a :: hs, m :: ds, k + 1, X, w, h, d, hp, h1, h2 => by
    obtain ⟨_, h3⟩ := hp.popD
    exact Hp.lookD (h3.sub (dr2 kpr)) (by simpa using h1) (by simpa using h2)
theorem Hp.lenD {w0 : World} {V : View} {H : List HObj} {w : World} {hs : List DDH} {ds : List DDisk} (hp : Hp w0 V H w) {i : Nat} (hi : nth H i = some (diskso hs ds)) : hs.length = ds.length := by
  rw [nth_eq] at hi
  exact (hp.objs _ (List.mem_of_getElem? hi)).1
/-- A disk is looked at, wherever the object stands. -/
theorem Hp.lookAtD {w0 : World} {V : View} {H : List HObj} {w : World} {hs : List DDH} {ds : List DDisk} {k : Nat} {h : DDH} {d : DDisk} (hp : Hp w0 V H w) {i : Nat} (hi : nth H i = some (diskso hs ds)) (h1 : hs[k]? = some h) (h2 : ds[k]? = some d) :
    FitD h d ∧ SlOk (vw w) eStr h.a1 h.c1 d.pages ∧ SlOk (vw w) eWrite h.a2 h.c2 d.writes := (hp.perm (perm_at hi)).lookD h1 h2
theorem Hp.lastD {w0 : World} {V : View} {H : List HObj} {w : World} {hs : List DDH} {ds : List DDisk} {h : DDH} {d : DDisk} (hp : Hp w0 V H w) {i : Nat} (hi : nth H i = some (diskso (hs ++ [h]) (ds ++ [d]))) :
    FitD h d ∧ SlOk (vw w) eStr h.a1 h.c1 d.pages ∧ SlOk (vw w) eWrite h.a2 h.c2 d.writes := by
  have hl := hp.lenD hi
  simp only [List.length_append, List.length_cons, List.length_nil] at hl
  exact hp.lookAtD hi (k := hs.length) (by simp) (by rw [show hs.length = ds.length by omega]; simp)
end Go.Proofs.Ytjhkfonoobmecaa
