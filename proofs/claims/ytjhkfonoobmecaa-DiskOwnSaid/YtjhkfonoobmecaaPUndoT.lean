/- Plain Lean: what a recovery does to the pages. Its conditions: none. -/
import Derived.Test.YtjhkfonoobmecaaPUndo
namespace Go.Proofs.Ytjhkfonoobmecaa
set_option linter.unusedVariables false
set_option linter.unusedSimpArgs false
variable {F : Nat} [Big F]

/-- A page that a recovery leaves alone. -/
def Quiet (q : Nat) (s : ByteArray) : Prop := ∀ n p t, oldF s = some (n, p, t) → n ≤ q
theorem quiet_empty (q : Nat) : Quiet q (ofL []) := fun n p t h => by rw [oldF_empty] at h; cases h
theorem Quiet.mono {q q' : Nat} {s : ByteArray} (h : Quiet q s) (hq : q ≤ q') : Quiet q' s := fun n p t ho => Nat.le_trans (h n p t ho) hq
theorem recStep_quiet {q : Nat} {ps : List ByteArray} {i : Nat} (h : Quiet q (pg ps i)) : recStep q ps i = ps := by
  unfold recStep
  cases ho : oldF (pg ps i) with
  | none => rfl
  | some x =>
    obtain ⟨n, p, t⟩ := x
    dsimp only
    rw [if_pos (h n p t ho)]
theorem recStep_old {q : Nat} {ps : List ByteArray} {i n p : Nat} {t : ByteArray} (ho : oldF (pg ps i) = some (n, p, t)) (hn : q < n) : recStep q ps i = (if n = q + 1 ∧ 1 ≤ p ∧ p < 101 then ps.set p t else ps).set i (ofL []) := by
  unfold recStep
  rw [ho]
  dsimp only
  rw [if_neg (by omega)]
theorem quiet_or (q : Nat) (s : ByteArray) : Quiet q s ∨ ∃ n p t, oldF s = some (n, p, t) ∧ q < n := by
  cases ho : oldF s with
  | none => exact .inl fun n p t h => by rw [ho] at h; cases h
  | some x =>
    obtain ⟨n, p, t⟩ := x
    by_cases h : n ≤ q
    · refine .inl fun n' p' t' h' => ?_
      rw [ho] at h'
      obtain ⟨rfl, _⟩ := Prod.mk.inj (Option.some.inj h')
      exact h
    · exact .inr ⟨n, p, t, rfl, by omega⟩
/-- What a step changes: a page ahead of 101, and its own. -/
theorem pg_recStep {q : Nat} {ps : List ByteArray} {i j : Nat} (hl : ps.length = 201) (hi : 101 ≤ i) (hi2 : i < 201) (hj : 101 ≤ j ∨ j = 0) (hne : j ≠ i) : pg (recStep q ps i) j = pg ps j := by
  rcases quiet_or q (pg ps i) with h | ⟨n, p, t, ho, hn⟩
  · rw [recStep_quiet h]
  · rw [recStep_old ho hn]
    split
    · rename_i hc
      rw [pg_set _ _ _ _ (by rw [List.length_set]; omega), if_neg (by omega), pg_set _ _ _ _ (by omega), if_neg (by omega)]
    · rw [pg_set _ _ _ _ (by omega), if_neg (by omega)]
theorem pg_recR {q : Nat} {ps : List ByteArray} (hl : ps.length = 201) {j : Nat} : ∀ k, k ≤ 100 → (101 + k ≤ j ∨ j = 0) → pg (recR q ps k) j = pg ps j
  | 0, _, _ => rfl
  | k + 1, hk, hj => by
    rw [recR_succ, pg_recStep (by rw [recR_length]; exact hl) (by omega) (by omega) (by omega) (by omega)]
    exact pg_recR hl k (by omega) (by omega)
theorem recR_done {q : Nat} {ps : List ByteArray} (hl : ps.length = 201) : ∀ k, k ≤ 100 → ∀ i, 101 ≤ i → i < 101 + k → Quiet q (pg (recR q ps k) i)
  | 0, _, i, h1, h2 => by omega
  | k + 1, hk, i, h1, h2 => by
    rw [recR_succ]
    have hl' : (recR q ps k).length = 201 := by rw [recR_length]; exact hl
    by_cases hi : i = 101 + k
    · subst hi
      rcases quiet_or q (pg (recR q ps k) (101 + k)) with h | ⟨n, p, t, ho, hn⟩
      · rw [recStep_quiet h]; exact h
      · rw [recStep_old ho hn]
        have : pg ((if n = q + 1 ∧ 1 ≤ p ∧ p < 101 then (recR q ps k).set p t else recR q ps k).set (101 + k) (ofL [])) (101 + k) = ofL [] := by
          rw [pg_set _ _ _ _ (by split <;> (try rw [List.length_set]) <;> omega), if_pos rfl]
        rw [this]; exact quiet_empty q
    · rw [pg_recStep hl' (by omega) (by omega) (by omega) hi]
      exact recR_done hl k (by omega) i h1 (by omega)
theorem recR_quiet {q : Nat} {ps : List ByteArray} : ∀ k, (∀ i, 101 ≤ i → i < 101 + k → Quiet q (pg ps i)) → recR q ps k = ps
  | 0, _ => rfl
  | k + 1, h => by
    rw [recR_succ, recR_quiet k (fun i h1 h2 => h i h1 (by omega)), recStep_quiet (h _ (by omega) (by omega))]
/-- Where each page that is not quiet says what its page was, that is there again. -/
theorem recR_to {q : Nat} {ps : List ByteArray} (hl : ps.length = 201) (T : Nat → ByteArray) (hA : ∀ i, 101 ≤ i → i < 201 → ∀ n p t, oldF (pg ps i) = some (n, p, t) → q < n → n = q + 1 ∧ 1 ≤ p ∧ p < 101 ∧ t = T p) :
    ∀ k, k ≤ 100 → ∀ j, 1 ≤ j → j < 101 → (pg ps j = T j ∨ ∃ i n t, 101 ≤ i ∧ i < 101 + k ∧ oldF (pg ps i) = some (n, j, t) ∧ q < n) → pg (recR q ps k) j = T j
  | 0, _, j, _, _, h => by
    rcases h with h | ⟨i, n, t, h1, h2, _⟩
    · exact h
    · omega
  | k + 1, hk, j, h1, h2, h => by
    rw [recR_succ]
    have hl' : (recR q ps k).length = 201 := by rw [recR_length]; exact hl
    have hpg : pg (recR q ps k) (101 + k) = pg ps (101 + k) := pg_recR hl k (by omega) (by omega)
    rcases quiet_or q (pg ps (101 + k)) with hq | ⟨n, p, t, ho, hn⟩
    · rw [recStep_quiet (by rw [hpg]; exact hq)]
      refine recR_to hl T hA k (by omega) j h1 h2 ?_
      rcases h with h | ⟨i, n, t, g1, g2, g3, g4⟩
      · exact .inl h
      · by_cases hi : i = 101 + k
        · subst hi; have := hq _ _ _ g3; omega
        · exact .inr ⟨i, n, t, g1, by omega, g3, g4⟩
    · obtain ⟨e1, e2, e3, e4⟩ := hA (101 + k) (by omega) (by omega) n p t ho hn
      rw [recStep_old (by rw [hpg]; exact ho) hn, if_pos ⟨e1, e2, e3⟩, pg_set _ _ _ _ (by rw [List.length_set]; omega), if_neg (by omega), pg_set _ _ _ _ (by omega)]
      by_cases hp : p = j
      · rw [if_pos hp, e4, hp]
      · rw [if_neg hp]
        refine recR_to hl T hA k (by omega) j h1 h2 ?_
        rcases h with h | ⟨i, n', t', g1, g2, g3, g4⟩
        · exact .inl h
        · by_cases hi : i = 101 + k
          · subst hi
            rw [ho] at g3
            exact absurd (Prod.mk.inj (Prod.mk.inj (Option.some.inj g3)).2).1 hp
          · exact .inr ⟨i, n', t', g1, by omega, g3, g4⟩
theorem pg_apply {ws : List DWrite} {ps : List ByteArray} {j : Nat} (hj : j < ps.length) (h : ∀ w ∈ ws, 0 ≤ w.page) : pg (apply ws ps) j = (lastW ws (j : Int)).getD (pg ps j) := apply_get ps j hj ws ps hj h
theorem lastW_mem : ∀ {ws : List DWrite} {i : Int} {t : ByteArray}, lastW ws i = some t → ∃ w ∈ ws, w.page = i ∧ w.text = t
  | [], _, _, h => by cases h
  | w :: ws, i, t, h => by
    rw [lastW] at h
    cases hl : lastW ws i with
    | some u =>
      rw [hl] at h
      obtain rfl := Option.some.inj h
      obtain ⟨v, hv, h1, h2⟩ := lastW_mem hl
      exact ⟨v, List.mem_cons_of_mem _ hv, h1, h2⟩
    | none =>
      rw [hl] at h
      dsimp only at h
      split at h
      · rename_i hp
        exact ⟨w, List.mem_cons_self, hp, Option.some.inj h⟩
      · cases h
theorem lastW_not {ws : List DWrite} {i : Int} (h : ∀ w ∈ ws, w.page ≠ i) : lastW ws i = none := by
  cases hl : lastW ws i with
  | none => rfl
  | some t =>
    obtain ⟨w, hw, hp, _⟩ := lastW_mem hl
    exact absurd hp (h w hw)
theorem seen_pg (d : DDisk) (g : GoodD d) (j : Nat) (hj : j < d.pages.length) : pg (apply d.writes d.pages) j = seen d j := pg_apply hj fun w hw => (g.writes w hw).1
theorem seen_clean (ps : List ByteArray) (j : Nat) : seen ⟨ps, []⟩ j = pg ps j := rfl
/-- What has been recovered. -/
structure Done (d : DDisk) (q : Nat) (t : ByteArray) : Prop where
  ok : SeqOk d q t
  clean : d.writes = []
  quiet : ∀ i, 101 ≤ i → i < 201 → Quiet q (pg d.pages i)
theorem recovered {d : DDisk} {q : Nat} {t : ByteArray} (h : SeqOk d q t) : Done ⟨recR q (apply d.writes d.pages) 100, []⟩ q t := by
  have hal : (apply d.writes d.pages).length = 201 := by rw [apply_length]; exact h.len
  have hsz : ∀ s ∈ apply d.writes d.pages, s.size ≤ 3500 := (good_sync h.good).pages
  have h0 := h.head
  rw [← seen_pg d h.good 0 (by rw [h.len]; decide), ← pg_recR hal 100 (by decide) (.inr rfl)] at h0
  have hs := recR_sizes q hsz 100
  have hl := recR_length q (apply d.writes d.pages) 100
  have hd := recR_done (q := q) hal 100 (by decide)
  generalize recR q (apply d.writes d.pages) 100 = R at h0 hs hl hd ⊢
  rw [hal] at hl
  exact ⟨⟨⟨Nat.le_of_eq hl, Nat.zero_le _, hs, fun w hw => by cases hw⟩, hl, h0⟩, rfl, fun i h1 h2 => hd i h1 (by omega)⟩
theorem apply_nil (ps : List ByteArray) : apply [] ps = ps := rfl
theorem recover_done {d : DDisk} {q : Nat} {t : ByteArray} (h : Done d q t) : undo_Recover F d = some (d, 0) := by
  have e : d = ⟨d.pages, []⟩ := by
    obtain ⟨p, w⟩ := d
    have := h.clean
    dsimp only at this ⊢
    rw [this]
  rw [recover_good h.ok, h.clean, apply_nil, recR_quiet 100 (fun i h1 h2 => h.quiet i h1 (by omega)), ← e]
/-- An empty disk. -/
def x0 : DDisk := ⟨List.replicate 201 (ofL []), []⟩
theorem x0_len : x0.pages.length = 201 := List.length_replicate
theorem good_x0 : GoodD x0 := ⟨by rw [x0_len]; decide, by show (0 : Nat) ≤ 400; omega, fun s hs => by rw [List.eq_of_mem_replicate hs]; decide, fun w hw => by cases hw⟩
theorem headF_empty : headF (ofL []) = none := by
  unfold headF
  exact if_neg fun h => absurd h.1 (by decide)
theorem seq_none {d : DDisk} (hg : GoodD d) (hl : d.pages.length = 201) (hh : headF (seen d 0) = none) : undo_Seq F d = some (0, ByteArray.mk #[], 11) := by
  unfold undo_Seq
  have hs := disk_Seen_eq (F := F) d 0 (by rw [hl]; decide) (by have := hg.nw; omega)
  rw [show ((0 : Nat) : Int) = 0 by rfl] at hs
  rw [check_good hg, obind, show ((0 : Int) != 0) = false by decide, cfalse, hl, show (((201 : Nat) : Int) != 201) = false by decide, cfalse, hs, obind, seq_head (seen d 0) (seen_size hg 0), hh]
theorem recover_none {d : DDisk} (hg : GoodD d) (hl : d.pages.length = 201) (hh : headF (seen d 0) = none) : undo_Recover F d = some (⟨[], []⟩, 11) := by
  unfold undo_Recover
  rw [seq_none hg hl hh, obind]
  dsimp only
  rw [show ((11 : Int) != 0) = true by decide, ctrue]
end Go.Proofs.Ytjhkfonoobmecaa
