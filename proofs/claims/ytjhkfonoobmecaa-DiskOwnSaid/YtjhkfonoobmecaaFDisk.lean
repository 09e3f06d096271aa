/- Plain Lean: disks. Its conditions: none. -/
import Derived.Test.YtjhkfonoobmecaaDiskF
import Derived.Test.YtjhkfonoobmecaaFFrame
import Derived.Test.YtjhkfonoobmecaaPEq
namespace Go.Proofs.Ytjhkfonoobmecaa
open Go.ChangeShapes
set_option linter.unusedVariables false
set_option linter.unusedSimpArgs false
variable {F : Nat} [Big F]

/-! ### Right disks -/
def okW (n : Nat) (w : DWrite) : Prop := 0 ≤ w.page ∧ w.page < n ∧ w.text.size ≤ 3500
structure GoodD (d : DDisk) : Prop where
  np : d.pages.length ≤ 201
  nw : d.writes.length ≤ 400
  pages : ∀ s ∈ d.pages, s.size ≤ 3500
  writes : ∀ w ∈ d.writes, okW d.pages.length w
/-- The error of a write. -/
def oneE (n : Nat) (i : Int) (s : ByteArray) : Int := if i < 0 ∨ n ≤ i then 1 else if 3500 < s.size then 2 else 0
theorem disk_one_eq (d : DDisk) (i : Int) (s : ByteArray) : disk_one d i s = some (oneE d.pages.length i s) := by
  unfold disk_one oneE
  by_cases h : i < 0 ∨ (d.pages.length : Int) ≤ i
  · rw [if_pos h, show (decide (i < 0) || decide ((d.pages.length : Int) ≤ i)) = true by simpa using h, ctrue]
  · rw [if_neg h, show (decide (i < 0) || decide ((d.pages.length : Int) ≤ i)) = false by simpa using h, cfalse]
    by_cases h2 : 3500 < s.size
    · rw [if_pos h2, decide_eq_true (by omega), ctrue]
    · rw [if_neg h2, decide_eq_false (by omega), cfalse]
theorem oneE_ok {n : Nat} {i : Int} {s : ByteArray} : oneE n i s = 0 ↔ 0 ≤ i ∧ i < n ∧ s.size ≤ 3500 := by
  unfold oneE
  split
  · constructor
    · intro h; cases h
    · omega
  · split
    · constructor
      · intro h; cases h
      · omega
    · constructor
      · intro _; omega
      · intro _; rfl
theorem findSome_none {ρ : Type} {W : Nat → Option ρ} {n : Nat} : (List.range' 0 n).findSome? W = none ↔ ∀ k, k < n → W k = none := by
  rw [List.findSome?_eq_none_iff]
  constructor
  · intro h k hk; exact h k (by simp [List.mem_range']; omega)
  · intro h k hk
    simp [List.mem_range'] at hk
    exact h k (by omega)
theorem findSome_get {ρ : Type} {W : Nat → Option ρ} {n : Nat} {r : ρ} (h : (List.range' 0 n).findSome? W = some r) : ∃ k, k < n ∧ W k = some r := by
  obtain ⟨k, hk, hr⟩ := List.exists_of_findSome?_eq_some h
  simp [List.mem_range'] at hk
  exact ⟨k, by omega, hr⟩
theorem disk_Check_spec (d : DDisk) : ∃ c : Int, disk_Check F d = some c ∧ (c = 0 ↔ GoodD d) := by
  unfold disk_Check
  by_cases h : 201 < d.pages.length ∨ 400 < d.writes.length
  · refine ⟨2, ?_, ?_⟩
    · rw [show (decide ((201 : Int) < (d.pages.length : Int)) || decide ((400 : Int) < (d.writes.length : Int))) = true by simp; omega, ctrue]
    · constructor
      · intro h; cases h
      · intro g; have := g.np; have := g.nw; omega
  · rw [show (decide ((201 : Int) < (d.pages.length : Int)) || decide ((400 : Int) < (d.writes.length : Int))) = false by simp; omega, cfalse]
    have key := iter_scan (ρ := Unit ⊕ Int) (f := fun x1 : Int =>
        bif decide (x1 < (d.pages.length : Int)) then
            (idx d.pages x1).bind fun e1 =>
            bif decide ((3500 : Int) < (e1.size : Int)) then
              some (.inr (.inr 2))
            else
              some (.inl (IntKind.i64.wrap (x1 + 1)))
          else
            some (.inr (.inl ()))) (fun k => (k : Int)) (fun k => match d.pages[k]? with | some s => if 3500 < s.size then some (.inr 2) else none | none => none) d.pages.length (res := .inl ()) (fun k hk => by
      rw [decide_eq_true (show (k : Int) < (d.pages.length : Int) by omega), ctrue, idx_nat, List.getElem?_eq_getElem hk, obind]
      dsimp only
      by_cases hs : 3500 < (d.pages[k]).size
      · rw [if_pos hs, decide_eq_true (by omega), ctrue]
      · rw [if_neg hs, decide_eq_false (by omega), cfalse, wrap64 (by omega) (by omega)]; rfl) (by
      rw [decide_eq_false (by omega)]; rfl) d.pages.length 0 F (by omega) (lt_big (by omega))
    rw [show iter _ F (0 : Int) = _ from key, obind]
    cases hf : (List.range' 0 d.pages.length).findSome? (fun k => match d.pages[k]? with | some s => if 3500 < s.size then some (.inr 2 : Unit ⊕ Int) else none | none => none) with
    | some r =>
      obtain ⟨k, hk, hr⟩ := findSome_get hf
      rw [List.getElem?_eq_getElem hk] at hr
      dsimp only at hr
      split at hr
      · rename_i hbig
        obtain rfl := Option.some.inj hr
        refine ⟨2, rfl, ?_⟩
        constructor
        · intro h; cases h
        · intro g; have := g.pages _ (List.getElem_mem hk); omega
      · cases hr
    | none =>
      rw [findSome_none] at hf
      have hp : ∀ s ∈ d.pages, s.size ≤ 3500 := fun s hs => by
        obtain ⟨k, hk, rfl⟩ := List.getElem_of_mem hs
        have := hf k hk
        rw [List.getElem?_eq_getElem hk] at this
        dsimp only at this
        split at this
        · cases this
        · omega
      rw [Option.getD_none]
      dsimp only
      have key2 := iter_scan (ρ := Unit ⊕ Int) (f := fun x2 : Int =>
            bif decide (x2 < (d.writes.length : Int)) then
                (idx d.writes x2).bind fun e2 =>
                (disk_one d e2.page e2.text).bind fun r1 =>
                bif (r1 != 0) then
                  some (.inr (.inr r1))
                else
                  some (.inl (IntKind.i64.wrap (x2 + 1)))
              else
                some (.inr (.inl ()))) (fun k => (k : Int)) (fun k => match d.writes[k]? with | some w => if oneE d.pages.length w.page w.text ≠ 0 then some (.inr (oneE d.pages.length w.page w.text)) else none | none => none) d.writes.length (res := .inl ()) (fun k hk => by
        rw [decide_eq_true (show (k : Int) < (d.writes.length : Int) by omega), ctrue, idx_nat, List.getElem?_eq_getElem hk, obind, disk_one_eq, obind]
        dsimp only
        by_cases hs : oneE d.pages.length (d.writes[k]).page (d.writes[k]).text ≠ 0
        · rw [if_pos hs, show (oneE d.pages.length (d.writes[k]).page (d.writes[k]).text != 0) = true by simpa using hs, ctrue]
        · rw [if_neg hs, show (oneE d.pages.length (d.writes[k]).page (d.writes[k]).text != 0) = false by simpa using hs, cfalse, wrap64 (by omega) (by omega)]; rfl) (by
        rw [decide_eq_false (by omega)]; rfl) d.writes.length 0 F (by omega) (lt_big (by omega))
      rw [show iter _ F (0 : Int) = _ from key2, obind]
      cases hf2 : (List.range' 0 d.writes.length).findSome? (fun k => match d.writes[k]? with | some w => if oneE d.pages.length w.page w.text ≠ 0 then some (.inr (oneE d.pages.length w.page w.text) : Unit ⊕ Int) else none | none => none) with
      | some r =>
        obtain ⟨k, hk, hr⟩ := findSome_get hf2
        rw [List.getElem?_eq_getElem hk] at hr
        dsimp only at hr
        split at hr
        · rename_i hbad
          obtain rfl := Option.some.inj hr
          refine ⟨oneE d.pages.length (d.writes[k]).page (d.writes[k]).text, rfl, ?_⟩
          constructor
          · intro h; exact absurd h hbad
          · intro g; exact oneE_ok.2 (g.writes _ (List.getElem_mem hk))
        · cases hr
      | none =>
        rw [findSome_none] at hf2
        refine ⟨0, rfl, ?_⟩
        constructor
        · intro _
          refine ⟨by omega, by omega, hp, fun w hw => ?_⟩
          obtain ⟨k, hk, rfl⟩ := List.getElem_of_mem hw
          have := hf2 k hk
          rw [List.getElem?_eq_getElem hk] at this
          dsimp only at this
          split at this
          · cases this
          · rename_i h0
            exact oneE_ok.1 (Decidable.not_not.1 h0)
        · intro _; rfl

/-! ### What a page is by now -/
/-- The last write of a page. -/
def lastW : List DWrite → Int → Option ByteArray
  | [], _ => none
  | w :: ws, i => match lastW ws i with
    | some t => some t
    | none => if w.page = i then some w.text else none
theorem lastW_append (w : DWrite) (i : Int) : ∀ ws : List DWrite, lastW (ws ++ [w]) i = if w.page = i then some w.text else lastW ws i
  | [] => by simp [lastW]
  | v :: ws => by
    rw [List.cons_append, lastW, lastW_append w i ws]
    by_cases h : w.page = i
    · simp [h]
    · simp [h, lastW]
def seen (d : DDisk) (i : Nat) : ByteArray := (lastW d.writes i).getD (d.pages.getD i (ofL []))
theorem disk_Seen_eq (d : DDisk) (i : Nat) (hi : i < d.pages.length) (hn : d.writes.length ≤ 1000000) : disk_Seen F d (i : Int) = some (seen d i) := by
  unfold disk_Seen
  have key : ∀ (m N : Nat), m ≤ d.writes.length → m < N → iter (σ := Int) (ρ := Unit ⊕ ByteArray) (fun x1 =>
      bif decide ((0 : Int) ≤ x1) then
          (idx d.writes x1).bind fun e1 =>
          bif (e1.page == (i : Int)) then
            (idx d.writes x1).bind fun e2 =>
            some (.inr (.inr e2.text))
          else
            some (.inl (IntKind.i64.wrap (x1 - 1)))
        else
          some (.inr (.inl ()))) N ((m : Int) - 1) = some (match lastW (d.writes.take m) i with | some t => .inr t | none => .inl ()) := by
    intro m
    induction m with
    | zero =>
      intro N _ hN
      obtain ⟨N, rfl⟩ : ∃ M, N = M + 1 := ⟨N - 1, by omega⟩
      rw [iter, decide_eq_false (by omega)]; rfl
    | succ m ih =>
      intro N hm hN
      obtain ⟨N, rfl⟩ : ∃ M, N = M + 1 := ⟨N - 1, by omega⟩
      have e0 : (((m + 1 : Nat) : Int) - 1) = (m : Int) := by omega
      rw [iter, e0, decide_eq_true (show (0 : Int) ≤ (m : Int) by omega), ctrue, idx_nat, List.getElem?_eq_getElem (show m < d.writes.length by omega), obind, obind]
      have e2 : d.writes.take (m + 1) = d.writes.take m ++ [d.writes[m]] := by
        rw [List.take_add_one, List.getElem?_eq_getElem (show m < d.writes.length by omega)]; rfl
      rw [e2, lastW_append]
      by_cases h : (d.writes[m]).page = (i : Int)
      · rw [show ((d.writes[m]).page == (i : Int)) = true by simpa using h, ctrue, if_pos h]
      · rw [show ((d.writes[m]).page == (i : Int)) = false by simpa using h, cfalse, if_neg h]
        dsimp only
        rw [wrap64 (by omega) (by omega)]
        exact ih N (by omega) (by omega)
  rw [wrap64 (by omega) (by omega), key d.writes.length F (Nat.le_refl _) (lt_big (by omega)), obind, List.take_length]
  unfold seen
  cases lastW d.writes i with
  | some t => rfl
  | none =>
    dsimp only
    rw [idx_nat, List.getElem?_eq_getElem hi, obind, Option.getD_none, List.getD_eq_getElem?_getD, List.getElem?_eq_getElem hi]; rfl
/-! ### Writes -/
theorem growD {α : Type} {b : Nat} {l m : List α} (h : (l.length + m.length) * b ≤ 140737488355328) (hm : l.length + m.length ≤ 9223372036854775807) : grow b l m = some (l ++ m) := by
  unfold grow; rw [if_pos ⟨h, by unfold maxLen; omega⟩]
def MayPut (d : DDisk) (i : Int) (s : ByteArray) : Prop := GoodD d ∧ 0 ≤ i ∧ i < d.pages.length ∧ s.size ≤ 3500 ∧ d.writes.length < 400
theorem disk_Put_eq (d : DDisk) (i : Int) (s : ByteArray) : (MayPut d i s ∧ disk_Put F d i s = some (⟨d.pages, d.writes ++ [⟨i, s⟩]⟩, 0)) ∨ (¬ MayPut d i s ∧ ∃ c : Int, c ≠ 0 ∧ disk_Put F d i s = some (⟨[], []⟩, c)) := by
  unfold disk_Put
  obtain ⟨c, hc, hg⟩ := disk_Check_spec (F := F) d
  rw [hc, obind]
  by_cases h0 : c = 0
  · subst h0
    have g := hg.1 rfl
    have gp := g.np
    have gw := g.nw
    rw [show ((0 : Int) != 0) = false by decide, cfalse, disk_one_eq, obind]
    by_cases h1 : oneE d.pages.length i s = 0
    · have h1' := oneE_ok.1 h1
      rw [h1, show ((0 : Int) != 0) = false by decide, cfalse]
      by_cases h2 : d.writes.length = 400
      · right
        refine ⟨fun h => by have := h.2.2.2.2; omega, 8, by decide, ?_⟩
        rw [show ((d.writes.length : Int) == 400) = true by rw [beq_iff_eq]; omega, ctrue]
      · left
        refine ⟨⟨g, h1'.1, h1'.2.1, h1'.2.2, by omega⟩, ?_⟩
        rw [show ((d.writes.length : Int) == 400) = false by rw [beq_eq_false_iff_ne]; omega, cfalse, growD (by simp; omega) (by simp; omega), obind, growD (by simp; omega) (by simp; omega), obind, obind, growD (by simp; omega) (by simp; omega), obind]
        simp
    · right
      refine ⟨fun h => h1 (oneE_ok.2 ⟨h.2.1, h.2.2.1, h.2.2.2.1⟩), _, h1, ?_⟩
      rw [show (oneE d.pages.length i s != 0) = true by simpa using h1, ctrue]
  · right
    refine ⟨fun h => h0 (hg.2 h.1), c, h0, ?_⟩
    rw [show (c != 0) = true by simpa using h0, ctrue]
theorem good_put {d : DDisk} {i : Int} {s : ByteArray} (h : MayPut d i s) : GoodD ⟨d.pages, d.writes ++ [⟨i, s⟩]⟩ := by
  obtain ⟨g, h1, h2, h3, h4⟩ := h
  refine ⟨g.np, by simp; omega, g.pages, fun w hw => ?_⟩
  rcases List.mem_append.1 hw with hw | hw
  · exact g.writes w hw
  · simp at hw; subst hw; exact ⟨h1, h2, h3⟩
theorem seen_put (d : DDisk) (i : Int) (s : ByteArray) (k : Nat) : seen ⟨d.pages, d.writes ++ [⟨i, s⟩]⟩ k = if i = k then s else seen d k := by
  unfold seen
  rw [lastW_append]
  split
  · rfl
  · rfl

/-! ### Equality -/
theorem eqStrs (p q : List ByteArray) (hp : p.length ≤ 9223372036854775807) : slices_Equal_string F p q = some (decide (p = q)) := equalF (fun x y => seq x y) seq_iff p q hp
theorem eqWrites (p q : List DWrite) (hp : p.length ≤ 9223372036854775807) : slices_Equal_Write F p q = some (decide (p = q)) := equalF (fun x y => x == y) (fun x y => by simp) p q hp
theorem SameDisk_eq (a b : DDisk) (h1 : a.pages.length ≤ 100000) (h2 : a.writes.length ≤ 100000) (h3 : b.pages.length ≤ 100000) (h4 : b.writes.length ≤ 100000) : annalref_SameDisk F a b = some (decide (a = b)) := by
  unfold annalref_SameDisk
  rw [eqStrs _ _ (by omega), obind]
  obtain ⟨p, w⟩ := a
  obtain ⟨p', w'⟩ := b
  dsimp only at h1 h2 h3 h4 ⊢
  by_cases h : p = p'
  · rw [decide_eq_true h, ctrue, eqWrites _ _ (by omega), obind, obind]
    subst h
    simp
  · rw [decide_eq_false h, cfalse, obind, decide_eq_false]
    intro e
    exact h (DDisk.mk.inj e).1

/-! ### What is safe -/
def put1 (ps : List ByteArray) (w : DWrite) : List ByteArray := ps.set w.page.toNat w.text
def apply (ws : List DWrite) (ps : List ByteArray) : List ByteArray := ws.foldl put1 ps
theorem apply_length (ws : List DWrite) (ps : List ByteArray) : (apply ws ps).length = ps.length := by
  unfold apply
  induction ws generalizing ps with
  | nil => rfl
  | cons w ws ih => rw [List.foldl_cons, ih]; simp [put1]
theorem apply_get (ps : List ByteArray) (i : Nat) (hi : i < ps.length) : ∀ (ws : List DWrite) (ps : List ByteArray), i < ps.length → (∀ w ∈ ws, 0 ≤ w.page) → (apply ws ps).getD i (ofL []) = (lastW ws i).getD (ps.getD i (ofL []))
  | [], _, _, _ => rfl
  | w :: ws, ps, hi, h => by
    have hw := h w (List.mem_cons_self)
    show (apply ws (put1 ps w)).getD i _ = _
    rw [apply_get ps i hi ws (put1 ps w) (by simp [put1]; exact hi) (fun v hv => h v (List.mem_cons_of_mem _ hv)), lastW]
    cases lastW ws i with
    | some t => rfl
    | none =>
      rw [Option.getD_none, put1, List.getD_eq_getElem?_getD, List.getElem?_set]
      by_cases hq : w.page = (i : Int)
      · rw [if_pos hq, if_pos (by omega), if_pos (by omega)]; rfl
      · rw [if_neg hq, if_neg (by omega)]; rfl
theorem sync_run {d : DDisk} (g : GoodD d) : iter (σ := (List ByteArray) × Int) (ρ := (List ByteArray)) (fun x => match x with
          | (x1, x2) =>
            bif decide (x2 < (d.writes.length : Int)) then
                (idx d.writes x2).bind fun e1 =>
                (idx x1 e1.page).bind fun e2 =>
                some (.inl ((x1.set e1.page.toNat e1.text), IntKind.i64.wrap (x2 + 1)))
              else
                some (.inr x1)) F (d.pages, 0) = some (apply d.writes d.pages) := by
  have gp := g.np
  have gw := g.nw
  have hl : ∀ k, (apply (d.writes.take k) d.pages).length = d.pages.length := fun k => apply_length _ _
  have run : (iter (σ := (List ByteArray) × Int) (ρ := (List ByteArray)) (fun x => match x with
          | (x1, x2) =>
            bif decide (x2 < (d.writes.length : Int)) then
                (idx d.writes x2).bind fun e1 =>
                (idx x1 e1.page).bind fun e2 =>
                some (.inl ((x1.set e1.page.toNat e1.text), IntKind.i64.wrap (x2 + 1)))
              else
                some (.inr x1)) F (d.pages, 0)).bind (fun z2 => some z2) = some (apply d.writes d.pages) := by
    refine iter_bindF (fun k => (apply (d.writes.take k) d.pages, (k : Int))) (r := apply d.writes d.pages) d.writes.length (by omega) (by simp [apply]) rfl (fun k hk => ?_) ?_
    · dsimp only
      have hw := g.writes _ (List.getElem_mem hk)
      have e2 : d.writes.take (k + 1) = d.writes.take k ++ [d.writes[k]] := by
        rw [List.take_add_one, List.getElem?_eq_getElem hk]; rfl
      have hi : idx (apply (d.writes.take k) d.pages) (d.writes[k]).page = some ((apply (d.writes.take k) d.pages)[(d.writes[k]).page.toNat]'(by rw [hl]; have := hw.1; have := hw.2.1; omega)) := by
        have := hw.1
        unfold idx
        rw [if_neg (by omega)]
        exact List.getElem?_eq_getElem _
      have e3 : apply (d.writes.take (k + 1)) d.pages = (apply (d.writes.take k) d.pages).set (d.writes[k]).page.toNat (d.writes[k]).text := by
        rw [e2, apply, List.foldl_append]; rfl
      rw [decide_eq_true (show (k : Int) < (d.writes.length : Int) by omega), ctrue, idx_nat, List.getElem?_eq_getElem hk, obind, hi, obind, wrap64 (by omega) (by omega), e3]
      rfl
    · dsimp only
      rw [decide_eq_false (show ¬ (d.writes.length : Int) < (d.writes.length : Int) by omega), List.take_length]; rfl
  obtain ⟨z, hz, hz2⟩ := Option.bind_eq_some_iff.1 run
  rw [hz]; exact hz2
theorem disk_Sync_good {d : DDisk} (g : GoodD d) : disk_Sync F d = some (⟨apply d.writes d.pages, []⟩, 0) := by
  unfold disk_Sync
  obtain ⟨c, hc, hg⟩ := disk_Check_spec (F := F) d
  have h0 := hg.2 g
  subst h0
  have gp := g.np
  have gw := g.nw
  rw [hc, obind, show ((0 : Int) != 0) = false by decide, cfalse, growD (by simp; omega) (by simp; omega), obind, List.nil_append]
  have hl : ∀ k, (apply (d.writes.take k) d.pages).length = d.pages.length := fun k => apply_length _ _
  have run : (iter (σ := (List ByteArray) × Int) (ρ := (List ByteArray)) (fun x => match x with
          | (x1, x2) =>
            bif decide (x2 < (d.writes.length : Int)) then
                (idx d.writes x2).bind fun e1 =>
                (idx x1 e1.page).bind fun e2 =>
                some (.inl ((x1.set e1.page.toNat e1.text), IntKind.i64.wrap (x2 + 1)))
              else
                some (.inr x1)) F (d.pages, 0)).bind (fun z2 => some z2) = some (apply d.writes d.pages) := by
    refine iter_bindF (fun k => (apply (d.writes.take k) d.pages, (k : Int))) (r := apply d.writes d.pages) d.writes.length (by omega) (by simp [apply]) rfl (fun k hk => ?_) ?_
    · dsimp only
      have hw := g.writes _ (List.getElem_mem hk)
      have e2 : d.writes.take (k + 1) = d.writes.take k ++ [d.writes[k]] := by
        rw [List.take_add_one, List.getElem?_eq_getElem hk]; rfl
      have hi : idx (apply (d.writes.take k) d.pages) (d.writes[k]).page = some ((apply (d.writes.take k) d.pages)[(d.writes[k]).page.toNat]'(by rw [hl]; have := hw.1; have := hw.2.1; omega)) := by
        have := hw.1
        unfold idx
        rw [if_neg (by omega)]
        exact List.getElem?_eq_getElem _
      have e3 : apply (d.writes.take (k + 1)) d.pages = (apply (d.writes.take k) d.pages).set (d.writes[k]).page.toNat (d.writes[k]).text := by
        rw [e2, apply, List.foldl_append]; rfl
      rw [decide_eq_true (show (k : Int) < (d.writes.length : Int) by omega), ctrue, idx_nat, List.getElem?_eq_getElem hk, obind, hi, obind, wrap64 (by omega) (by omega), e3]
      rfl
    · dsimp only
      rw [decide_eq_false (show ¬ (d.writes.length : Int) < (d.writes.length : Int) by omega), List.take_length]; rfl
  rw [run, obind]
theorem disk_Sync_bad {d : DDisk} (g : ¬ GoodD d) : ∃ c : Int, c ≠ 0 ∧ disk_Sync F d = some (⟨[], []⟩, c) := by
  unfold disk_Sync
  obtain ⟨c, hc, hg⟩ := disk_Check_spec (F := F) d
  have h0 : c ≠ 0 := fun h => g (hg.1 h)
  refine ⟨c, h0, ?_⟩
  rw [hc, obind, show (c != 0) = true by simpa using h0, ctrue]
theorem good_sync {d : DDisk} (g : GoodD d) : GoodD ⟨apply d.writes d.pages, []⟩ := by
  refine ⟨by rw [apply_length]; exact g.np, by simp, ?_, by simp⟩
  have key : ∀ (ws : List DWrite) (ps : List ByteArray), (∀ w ∈ ws, w.text.size ≤ 3500) → (∀ s ∈ ps, s.size ≤ 3500) → ∀ s ∈ apply ws ps, s.size ≤ 3500 := by
    intro ws
    induction ws with
    | nil => intro ps _ h; exact h
    | cons w ws ih =>
      intro ps hw h
      refine ih (put1 ps w) (fun v hv => hw v (List.mem_cons_of_mem _ hv)) (fun s hs => ?_)
      rcases List.mem_or_eq_of_mem_set hs with h1 | h1
      · exact h s h1
      · rw [h1]; exact hw w (List.mem_cons_self)
  exact key _ _ (fun w hw => (g.writes w hw).2.2) g.pages

/-- What of the writes a crash keeps. -/
def keptW : List DWrite → List Bool → List DWrite
  | [], _ => []
  | w :: ws, [] => []
  | w :: ws, b :: bs => if b then w :: keptW ws bs else keptW ws bs
theorem keptW_take (ws : List DWrite) : ∀ (bs : List Bool) (k : Nat) (hk : k < ws.length), keptW (ws.take (k + 1)) bs = keptW (ws.take k) bs ++ (if bs.getD k false then [ws[k]] else []) := by
  induction ws with
  | nil => intro bs k hk; simp at hk
  | cons w ws ih =>
    intro bs k hk
    cases bs with
    | nil => cases k <;> simp [keptW]
    | cons b bs =>
      cases k with
      | zero => simp [keptW]
      | succ k =>
        have hk' : k < ws.length := by simpa using hk
        rw [List.take_succ_cons, List.take_succ_cons, keptW, keptW, ih bs k hk']
        cases b <;> simp
theorem keptW_sub (ws : List DWrite) (bs : List Bool) : ∀ w ∈ keptW ws bs, w ∈ ws := by
  induction ws generalizing bs with
  | nil => intro w hw; simp [keptW] at hw
  | cons v ws ih =>
    intro w hw
    cases bs with
    | nil => simp [keptW] at hw
    | cons b bs =>
      rw [keptW] at hw
      split at hw
      · rcases List.mem_cons.1 hw with rfl | hw
        · exact List.mem_cons_self
        · exact List.mem_cons_of_mem _ (ih bs w hw)
      · exact List.mem_cons_of_mem _ (ih bs w hw)
theorem disk_Crash_good {d : DDisk} (g : GoodD d) (bs : List Bool) (hb : bs.length ≤ 9223372036854775807) : disk_Crash F d bs = some (⟨apply (keptW d.writes bs) d.pages, []⟩, 0) := by
  unfold disk_Crash
  obtain ⟨c, hc, hg⟩ := disk_Check_spec (F := F) d
  have h0 := hg.2 g
  subst h0
  have gp := g.np
  have gw := g.nw
  rw [hc, obind, show ((0 : Int) != 0) = false by decide, cfalse, growD (by simp; omega) (by simp; omega), obind, List.nil_append]
  have hl : ∀ k, (apply (keptW (d.writes.take k) bs) d.pages).length = d.pages.length := fun k => apply_length _ _
  have run : (iter (σ := (List ByteArray) × Int) (ρ := (List ByteArray)) (fun x => match x with
          | (x1, x2) =>
            bif decide (x2 < (d.writes.length : Int)) then
                (
                  (idx d.writes x2).bind fun e1 =>
                    (
                      (
                          bif decide (x2 < (bs.length : Int)) then
                              (idx bs x2).bind fun e2 =>
                              some e2
                            else
                              some false : Option (Bool)).bind fun z5 =>
                        some z5 : Option (Bool)).bind fun z4 =>
                    bif z4 then
                      (idx x1 e1.page).bind fun e3 =>
                      some (x1.set e1.page.toNat e1.text)
                    else
                      some x1 : Option ((List ByteArray))).bind fun z3 =>
                some (.inl (z3, IntKind.i64.wrap (x2 + 1)))
              else
                some (.inr x1)) F (d.pages, 0)).bind (fun z2 => some z2) = some (apply (keptW d.writes bs) d.pages) := by
    refine iter_bindF (fun k => (apply (keptW (d.writes.take k) bs) d.pages, (k : Int))) (r := apply (keptW d.writes bs) d.pages) d.writes.length (by omega) (by simp [apply, keptW]) rfl (fun k hk => ?_) ?_
    · dsimp only
      have hw := g.writes _ (List.getElem_mem hk)
      have hi : idx (apply (keptW (d.writes.take k) bs) d.pages) (d.writes[k]).page = some ((apply (keptW (d.writes.take k) bs) d.pages)[(d.writes[k]).page.toNat]'(by rw [hl]; have := hw.1; have := hw.2.1; omega)) := by
        have := hw.1
        unfold idx
        rw [if_neg (by omega)]
        exact List.getElem?_eq_getElem _
      have hbit : (bif decide ((k : Int) < (bs.length : Int)) then (idx bs (k : Int)).bind (fun e2 => some e2) else some false) = some (bs.getD k false) := by
        by_cases hkb : k < bs.length
        · rw [decide_eq_true (by omega), ctrue, idx_nat, List.getElem?_eq_getElem hkb, obind, List.getD_eq_getElem?_getD, List.getElem?_eq_getElem hkb]; rfl
        · rw [decide_eq_false (by omega), cfalse, List.getD_eq_getElem?_getD, List.getElem?_eq_none (by omega)]; rfl
      rw [decide_eq_true (show (k : Int) < (d.writes.length : Int) by omega), ctrue, idx_nat, List.getElem?_eq_getElem hk, obind, hbit, obind, obind, wrap64 (by omega) (by omega), keptW_take d.writes bs k hk]
      cases hbk : bs.getD k false with
      | true =>
        rw [ctrue, hi, obind, obind, if_pos rfl]
        have e3 : apply (keptW (d.writes.take k) bs ++ [d.writes[k]]) d.pages = (apply (keptW (d.writes.take k) bs) d.pages).set (d.writes[k]).page.toNat (d.writes[k]).text := by
          rw [apply, List.foldl_append]; rfl
        rw [e3]; rfl
      | false =>
        rw [cfalse, obind, if_neg (by decide), List.append_nil]; rfl
    · dsimp only
      rw [decide_eq_false (show ¬ (d.writes.length : Int) < (d.writes.length : Int) by omega), List.take_length]; rfl
  rw [run, obind]
theorem disk_Crash_bad {d : DDisk} (g : ¬ GoodD d) (bs : List Bool) : ∃ c : Int, c ≠ 0 ∧ disk_Crash F d bs = some (⟨[], []⟩, c) := by
  unfold disk_Crash
  obtain ⟨c, hc, hg⟩ := disk_Check_spec (F := F) d
  have h0 : c ≠ 0 := fun h => g (hg.1 h)
  refine ⟨c, h0, ?_⟩
  rw [hc, obind, show (c != 0) = true by simpa using h0, ctrue]
end Go.Proofs.Ytjhkfonoobmecaa
