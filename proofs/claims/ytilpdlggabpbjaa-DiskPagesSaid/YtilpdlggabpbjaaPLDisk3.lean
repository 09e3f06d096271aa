/- Plain Lean: the law of disks and their pages. Its conditions: none. -/
import Derived.Test.YtilpdlggabpbjaaPLDisk2
namespace Go.Proofs.Ytilpdlggabpbjaa
open Go.ChangeShapes
set_option linter.unusedVariables false
set_option linter.unusedSimpArgs false

/-- Is one of the first k writes of a page, and kept, with this text? -/
def keptAs (ws : List DWrite) (bs : List Bool) (r : Int) (t : ByteArray) (k : Nat) : Bool := (List.range k).any fun i => match ws[i]? with
  | some w => w.page == r && bs.getD i false && seq t w.text
  | none => false
def someW (ws : List DWrite) (r : Int) (k : Nat) : Bool := (List.range k).any fun i => match ws[i]? with
  | some w => w.page == r
  | none => false
theorem any_succ (p : Nat → Bool) (k : Nat) : (List.range (k + 1)).any p = ((List.range k).any p || p k) := by
  rw [List.range_succ, List.any_append]; simp
theorem lastW_kept : ∀ (ws : List DWrite) (bs : List Bool) (r : Int) (t : ByteArray), lastW (keptW ws bs) r = some t → keptAs ws bs r t ws.length = true
  | [], _, _, _, h => by simp [keptW, lastW] at h
  | w :: ws, [], _, _, h => by simp [keptW, lastW] at h
  | w :: ws, b :: bs, r, t, h => by
    have shift : ∀ k, keptAs (w :: ws) (b :: bs) r t (k + 1) = ((w.page == r && b && seq t w.text) || keptAs ws bs r t k) := by
      intro k
      induction k with
      | zero => simp [keptAs]
      | succ k ih =>
        have e1 : keptAs (w :: ws) (b :: bs) r t (k + 1 + 1) = (keptAs (w :: ws) (b :: bs) r t (k + 1) || (match (w :: ws)[k + 1]? with | some w => w.page == r && (b :: bs).getD (k + 1) false && seq t w.text | none => false)) := any_succ _ _
        have e2 : keptAs ws bs r t (k + 1) = (keptAs ws bs r t k || (match ws[k]? with | some w => w.page == r && bs.getD k false && seq t w.text | none => false)) := any_succ _ _
        rw [e1, ih, e2, Bool.or_assoc]
        simp
    rw [List.length_cons, shift]
    rw [keptW] at h
    cases b with
    | false =>
      have h' : lastW (keptW ws bs) r = some t := h
      rw [lastW_kept ws bs r t h', Bool.or_true]
    | true =>
      have h' : lastW (w :: keptW ws bs) r = some t := h
      rw [lastW] at h'
      cases hl : lastW (keptW ws bs) r with
      | some t' =>
        rw [hl] at h'
        obtain rfl := Option.some.inj h'
        rw [lastW_kept ws bs r _ hl, Bool.or_true]
      | none =>
        rw [hl] at h'
        dsimp only at h'
        split at h'
        · rename_i hp
          obtain rfl := Option.some.inj h'
          simp [hp, seq_refl]
        · cases h'
theorem lastW_none : ∀ (ws : List DWrite) (r : Int), someW ws r ws.length = false → lastW ws r = none := by
  intro ws
  -- from the end on
  have key : ∀ k, k ≤ ws.length → ∀ r, someW ws r k = false → lastW (ws.take k) r = none := by
    intro k
    induction k with
    | zero => intro _ r _; rfl
    | succ k ih =>
      intro hk r h
      have e1 : someW ws r (k + 1) = (someW ws r k || (match ws[k]? with | some w => w.page == r | none => false)) := any_succ _ _
      rw [e1, Bool.or_eq_false_iff, List.getElem?_eq_getElem (show k < ws.length by omega)] at h
      have e2 : ws.take (k + 1) = ws.take k ++ [ws[k]] := by
        rw [List.take_add_one, List.getElem?_eq_getElem (show k < ws.length by omega)]; rfl
      rw [e2, lastW_append, if_neg (by simpa using h.2)]
      exact ih (by omega) r h.1
  intro r h
  have := key ws.length (Nat.le_refl _) r h
  rwa [List.take_length] at this
theorem annalkeep_DiskPages_true (p0 : DDisk) (p1 : List Bool) (p2 : Int) (k0 : okDisk p0) (k1 : okAllW 1 (fun _ => True) p1) (k2 : (Lit.int .i64 p2).wf = true) : annalkeep_DiskPages p0 p1 p2 = some true := by
  have hb1 : p1.length ≤ 140737488351232 := by
    have := k1.1
    unfold reachBytes at this; omega
  unfold annalkeep_DiskPages
  have gp := good_put good_a
  have e1 := put_good good_a
  have r0 := read_good (i := 0) gp (by decide)
  rw [seen_put, if_pos (by decide)] at r0
  dsimp only at e1 r0
  rw [one_eq, obind, e1, obind]
  dsimp only
  rw [show disk_Read _ (0 : Int) = _ from r0, obind]
  dsimp only
  rw [n00, seq_refl, Bool.not_true, Bool.or_self, Bool.or_self, cfalse]
  obtain ⟨c, hc, hg⟩ := disk_Check_spec p0
  rw [hc, obind]
  by_cases h0 : c = 0
  · subst h0
    have g := hg.1 rfl
    have hnp := g.np
    have hnw := g.nw
    rw [n00, cfalse, obind]
    by_cases hz : p0.pages.length = 0
    · rw [show ((p0.pages.length : Int) == 0) = true by rw [beq_iff_eq]; omega, ctrue]
    · rw [show ((p0.pages.length : Int) == 0) = false by rw [beq_eq_false_iff_ne]; omega, cfalse]
      obtain ⟨r, hr, hr0, hr1⟩ := within_some p2 (n := (p0.pages.length : Int)) (by omega) (by omega)
      obtain ⟨n, rfl⟩ : ∃ n : Nat, r = n := ⟨r.toNat, by omega⟩
      have hn : n < p0.pages.length := by omega
      have g2 := good_sync g
      have hal := apply_length p0.writes p0.pages
      have hak := apply_length (keptW p0.writes p1) p0.pages
      have g3 : GoodD ⟨apply (keptW p0.writes p1) p0.pages, []⟩ := by
        have g4 : GoodD ⟨p0.pages, keptW p0.writes p1⟩ := by
          refine ⟨g.np, ?_, g.pages, fun w hw => g.writes w (keptW_sub _ _ w hw)⟩
          have : ∀ (ws : List DWrite) (bs : List Bool), (keptW ws bs).length ≤ ws.length := by
            intro ws
            induction ws with
            | nil => intro bs; simp [keptW]
            | cons w ws ih =>
              intro bs
              cases bs with
              | nil => simp [keptW]
              | cons b bs =>
                have := ih bs
                rw [keptW]
                split <;> simp <;> omega
          exact Nat.le_trans (this _ _) hnw
        exact good_sync g4
      have q1 := read_good g hn
      have q2 := read_good g2 (i := n) (by dsimp only; omega)
      have q3 := read_good g3 (i := n) (by dsimp only; omega)
      have w1 : ∀ w ∈ p0.writes, 0 ≤ w.page := fun w hw => (g.writes w hw).1
      have v2 : seen ⟨apply p0.writes p0.pages, []⟩ n = seen p0 n := by
        unfold seen
        show (apply p0.writes p0.pages).getD n (ofL []) = _
        rw [apply_get p0.pages n hn p0.writes p0.pages hn w1]
      have v3 : seen ⟨apply (keptW p0.writes p1) p0.pages, []⟩ n = (lastW (keptW p0.writes p1) n).getD (p0.pages.getD n (ofL [])) := by
        unfold seen
        show (apply (keptW p0.writes p1) p0.pages).getD n (ofL []) = _
        rw [apply_get p0.pages n hn _ p0.pages hn (fun w hw => w1 w (keptW_sub _ _ w hw))]
      rw [hr, obind, q1, obind, disk_Sync_good g, obind, disk_Crash_good g p1 (by omega), obind]
      dsimp only
      rw [n00, Bool.or_self, Bool.or_self, cfalse, q2, obind, q3, obind]
      dsimp only
      have hw0 : decide ((0 : Int) < IntKind.i64.wrap ((([] : List DWrite).length : Int) + (([] : List DWrite).length : Int))) = false := by decide
      rw [n00, v2, seq_refl, Bool.not_true, hw0, hal, hak, show ((p0.pages.length : Int) != (p0.pages.length : Int)) = false by simp, Bool.or_self, Bool.or_self, Bool.or_self, Bool.or_self, Bool.or_self, cfalse, idx_nat, List.getElem?_eq_getElem hn, obind]
      generalize hT : seen ⟨apply (keptW p0.writes p1) p0.pages, []⟩ n = T at *
      have hpg : p0.pages.getD n (ofL []) = p0.pages[n] := by
        rw [List.getD_eq_getElem?_getD, List.getElem?_eq_getElem hn]; rfl
      refine iter_bind (fun k => (seq T p0.pages[n] || keptAs p0.writes p1 n T k, someW p0.writes n k, (k : Int))) (r := (seq T p0.pages[n] || keptAs p0.writes p1 n T p0.writes.length, someW p0.writes n p0.writes.length)) p0.writes.length (by omega) (by simp [keptAs, someW]) ?_ (fun k hk => ?_) ?_
      · dsimp only
        have hx : (seq T p0.pages[n] || keptAs p0.writes p1 n T p0.writes.length) = true := by
          cases hl : lastW (keptW p0.writes p1) n with
          | some t =>
            rw [hl, Option.getD_some] at v3
            rw [v3, lastW_kept _ _ _ _ hl, Bool.or_true]
          | none =>
            rw [hl, Option.getD_none, hpg] at v3
            rw [v3, seq_refl, Bool.true_or]
        rw [hx, ctrue]
        cases hs : someW p0.writes n p0.writes.length with
        | true => rw [ctrue, obind]
        | false =>
          rw [cfalse, obind, obind]
          unfold seen
          rw [lastW_none _ _ hs, Option.getD_none, hpg, seq_refl]
      · dsimp only
        have e1 : keptAs p0.writes p1 n T (k + 1) = (keptAs p0.writes p1 n T k || ((p0.writes[k]).page == (n : Int) && p1.getD k false && seq T (p0.writes[k]).text)) := by
          have : keptAs p0.writes p1 n T (k + 1) = (keptAs p0.writes p1 n T k || (match p0.writes[k]? with | some w => w.page == (n : Int) && p1.getD k false && seq T w.text | none => false)) := any_succ _ _
          rw [this, List.getElem?_eq_getElem hk]
        have e2 : someW p0.writes n (k + 1) = (someW p0.writes n k || ((p0.writes[k]).page == (n : Int))) := by
          have : someW p0.writes n (k + 1) = (someW p0.writes n k || (match p0.writes[k]? with | some w => w.page == (n : Int) | none => false)) := any_succ _ _
          rw [this, List.getElem?_eq_getElem hk]
        have hbit : k < p1.length → idx p1 (k : Int) = some (p1.getD k false) := fun h => by
          rw [idx_nat, List.getD_eq_getElem?_getD, List.getElem?_eq_getElem h]; rfl
        have hno : ¬ k < p1.length → p1.getD k false = false := fun h => by
          rw [List.getD_eq_getElem?_getD, List.getElem?_eq_none (by omega)]; rfl
        rw [decide_eq_true (show (k : Int) < (p0.writes.length : Int) by omega), ctrue, idx_nat, List.getElem?_eq_getElem hk, obind, wrap64 (by omega) (by omega), e1, e2]
        generalize seq T p0.pages[n] = A
        generalize keptAs p0.writes p1 n T k = B
        generalize someW p0.writes n k = C
        cases hp : ((p0.writes[k]).page == (n : Int)) with
        | false => rw [cfalse, obind]; simp
        | true =>
          rw [ctrue]
          cases hAB : (A || B) with
          | true => rw [ctrue, obind]; dsimp only; rw [← Bool.or_assoc, hAB]; simp
          | false =>
            rw [cfalse]
            cases hst : seq T (p0.writes[k]).text with
            | false => rw [cfalse, obind]; dsimp only; rw [← Bool.or_assoc, hAB]; simp
            | true =>
              rw [ctrue]
              by_cases hkb : k < p1.length
              · rw [decide_eq_true (by omega), ctrue, hbit hkb, obind, obind]; dsimp only; rw [← Bool.or_assoc, hAB]; simp
              · rw [decide_eq_false (by omega), cfalse, obind]; dsimp only; rw [hno hkb, ← Bool.or_assoc, hAB]; simp
      · dsimp only
        rw [decide_eq_false (show ¬ (p0.writes.length : Int) < (p0.writes.length : Int) by omega)]; rfl
  · rw [nz h0, ctrue, obind, ctrue]
end Go.Proofs.Ytilpdlggabpbjaa
