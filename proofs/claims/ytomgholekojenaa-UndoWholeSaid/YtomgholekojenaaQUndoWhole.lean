/- Plain Lean: the law UndoWhole. Its conditions: none. -/
import Derived.Test.YtomgholekojenaaWUndoWholeF
import Derived.Test.YtomgholekojenaaPStepsL
namespace Go.Proofs.Ytomgholekojenaa
open Go.ChangeShapes
set_option linter.unusedVariables false
set_option linter.unusedSimpArgs false

section
variable {F : Nat} [Big F] {q : Nat} {P : List ByteArray} {h t : ByteArray} {l : List DWrite}
/-- Pages on which a group has not been finished. -/
structure Mid (q : Nat) (P Q : List ByteArray) : Prop where
  len : Q.length = 201
  size : ∀ s ∈ Q, s.size ≤ 3500
  zero : pg Q 0 = pg P 0
  olds : ∀ i, 101 ≤ i → i < 201 → ∀ n p t, oldF (pg Q i) = some (n, p, t) → q < n → n = q + 1 ∧ 1 ≤ p ∧ p < 101 ∧ t = pg P p
  news : ∀ j, 1 ≤ j → j < 101 → pg Q j = pg P j ∨ ∃ i n t, 101 ≤ i ∧ i < 101 + 100 ∧ oldF (pg Q i) = some (n, j, t) ∧ q < n
theorem fr_old (g : Ground q P h l) {k : Nat} (hk : k < l.length) : oldF (ofL (fput 9 (oldB q P (l[k]).page.toNat))) = some (q + 1, (l[k]).page.toNat, pg P (l[k]).page.toNat) :=
  oldB_old q g.more P _ (by have := g.fit.page _ (List.getElem_mem hk); omega) (g.small _ (List.getElem_mem hk))
theorem slot_old (g : Ground q P h l) {k : Nat} (hk : k < l.length) {n p : Nat} {t : ByteArray} (ho : oldF (ofL (fput 9 (oldB q P (l[k]).page.toNat))) = some (n, p, t)) : n = q + 1 ∧ 1 ≤ p ∧ p < 101 ∧ t = pg P p := by
  rw [fr_old g hk] at ho
  have hp := g.fit.page _ (List.getElem_mem hk)
  obtain ⟨rfl, h2⟩ := Prod.mk.inj (Option.some.inj ho)
  obtain ⟨rfl, rfl⟩ := Prod.mk.inj h2
  exact ⟨rfl, by omega, by omega, rfl⟩
theorem sizes_apply {ws : List DWrite} {ps : List ByteArray} (hp : ∀ s ∈ ps, s.size ≤ 3500) (hl : ps.length = 201) (hn : ws.length ≤ 400) (hw : ∀ w ∈ ws, okW 201 w) : ∀ s ∈ apply ws ps, s.size ≤ 3500 :=
  (good_sync (d := ⟨ps, ws⟩) ⟨Nat.le_of_eq hl, hn, hp, fun w h => by show okW ps.length w; rw [hl]; exact hw w h⟩).pages
theorem keptW_len (ws : List DWrite) : ∀ bs : List Bool, (keptW ws bs).length ≤ ws.length := by
  induction ws with
  | nil => intro bs; exact Nat.zero_le _
  | cons w ws ih =>
    intro bs
    cases bs with
    | nil => exact Nat.zero_le _
    | cons b bs =>
      rw [keptW]
      have := ih bs
      split
      · simp; omega
      · simp; omega
theorem mid1 (g : Ground q P h l) (hq : ∀ i, 101 ≤ i → i < 201 → Quiet q (pg P i)) {ws : List DWrite} (hn : ws.length ≤ 400) (hw : ∀ w ∈ ws, w ∈ frWs q P l) : Mid q P (apply ws P) := by
  have h0 : ∀ w ∈ ws, 0 ≤ w.page := fun w hh => (g.frw w (hw w hh)).1
  have hlow : ∀ j, j < 101 → pg (apply ws P) j = pg P j := fun j hj => by
    rw [pg_apply (by rw [g.len]; omega) h0, lastW_not, Option.getD_none]
    intro w hh
    obtain ⟨k, _, rfl⟩ := mem_frWs.1 (hw w hh)
    show ((101 + k : Nat) : Int) ≠ (j : Int)
    omega
  refine ⟨by rw [apply_length]; exact g.len, sizes_apply g.size g.len hn fun w hh => g.frw w (hw w hh), hlow 0 (by decide), fun i h1 h2 n p t ho hlt => ?_, fun j h1 h2 => .inl (hlow j h2)⟩
  rw [pg_apply (by rw [g.len]; omega) h0] at ho
  cases hl : lastW ws (i : Int) with
  | none =>
    rw [hl, Option.getD_none] at ho
    have := hq i h1 h2 n p t ho
    omega
  | some u =>
    rw [hl, Option.getD_some] at ho
    obtain ⟨w, hh, _, rfl⟩ := lastW_mem hl
    obtain ⟨k, hk, rfl⟩ := mem_frWs.1 (hw w hh)
    exact slot_old g hk ho
theorem slot2 (g : Ground q P h l) (hq : ∀ i, 101 ≤ i → i < 201 → Quiet q (pg P i)) (i : Nat) (h1 : 101 ≤ i) (h2 : i < 201) : Quiet q (pg (P2 q P l) i) ∨ ∃ k, ∃ hk : k < l.length, i = 101 + k ∧ pg (P2 q P l) i = ofL (fput 9 (oldB q P (l[k]).page.toNat)) := by
  by_cases hk : i - 101 < l.length
  · refine .inr ⟨i - 101, hk, by omega, ?_⟩
    have := pg_P2_at g (i - 101) hk
    rw [show 101 + (i - 101) = i by omega] at this
    exact this
  · left
    rw [pg_P2_far g i (by omega) h2]
    exact hq i h1 h2
theorem mid2 (g : Ground q P h l) (hq : ∀ i, 101 ≤ i → i < 201 → Quiet q (pg P i)) {ws : List DWrite} (hn : ws.length ≤ 400) (hw : ∀ w ∈ ws, w ∈ l) : Mid q P (apply ws (P2 q P l)) := by
  have h0 : ∀ w ∈ ws, 0 ≤ w.page := fun w hh => (g.okl w (hw w hh)).1
  have hfar : ∀ i, (i = 0 ∨ 101 ≤ i) → i < 201 → pg (apply ws (P2 q P l)) i = pg (P2 q P l) i := fun i h1 h2 => by
    rw [pg_apply (by rw [g.len2]; omega) h0, lastW_not, Option.getD_none]
    intro w hh
    have := g.fit.page w (hw w hh)
    omega
  refine ⟨by rw [apply_length]; exact g.len2, sizes_apply g.size2 g.len2 hn fun w hh => g.okl w (hw w hh), by rw [hfar 0 (.inl rfl) (by decide), pg_P2 g 0 (by decide)], fun i h1 h2 n p t ho hlt => ?_, fun j h1 h2 => ?_⟩
  · rw [hfar i (.inr h1) h2] at ho
    rcases slot2 g hq i h1 h2 with hqu | ⟨k, hk, _, e⟩
    · have := hqu n p t ho; omega
    · rw [e] at ho; exact slot_old g hk ho
  · by_cases hj : ∃ w ∈ l, w.page = (j : Int)
    · obtain ⟨w, hwl, hp⟩ := hj
      obtain ⟨k, hk, rfl⟩ := List.getElem_of_mem hwl
      have hn := g.fit.len
      refine .inr ⟨101 + k, q + 1, pg P (l[k]).page.toNat, by omega, by omega, ?_, by omega⟩
      rw [hfar _ (.inr (by omega)) (by omega), pg_P2_at g k hk, fr_old g hk, hp, Int.toNat_natCast]
    · left
      rw [pg_apply (by rw [g.len2]; omega) h0, lastW_not, Option.getD_none, pg_P2 g j h2]
      intro w hh e
      exact hj ⟨w, hw w hh, e⟩
/-- Where a group has not been finished all is as it was. -/
theorem mid_seq (hd : Done ⟨P, []⟩ q t) {Q : List ByteArray} (m : Mid q P Q) : SeqOk ⟨Q, []⟩ q t := by
  refine ⟨⟨Nat.le_of_eq m.len, Nat.zero_le _, m.size, fun w hw => by cases hw⟩, m.len, ?_⟩
  have := hd.ok.head
  rw [seen_clean] at this ⊢
  rw [m.zero]; exact this
theorem mid_pages {Q : List ByteArray} (m : Mid q P Q) (j : Nat) (h1 : 1 ≤ j) (h2 : j < 101) : pg (recR q Q 100) j = pg P j :=
  recR_to m.len (pg P) m.olds 100 (Nat.le_refl _) j h1 h2 (m.news j h1 h2)
/-- Where it has been finished it stays. -/
theorem done4 (g : Ground q P h l) (hq : ∀ i, 101 ≤ i → i < 201 → Quiet q (pg P i)) : Done ⟨P4 q P h l, []⟩ (q + 1) h := by
  refine ⟨seq_P4 g, rfl, fun i h1 h2 => ?_⟩
  show Quiet (q + 1) (pg (P4 q P h l) i)
  rw [pg_P4 g i h2, if_neg (by omega), pg_P3_other g i h2 (fun w hw => by have := g.fit.page w hw; omega)]
  rcases slot2 g hq i h1 h2 with hqu | ⟨k, hk, _, e⟩
  · exact hqu.mono (by omega)
  · rw [e]
    intro n p t ho
    have := (slot_old g hk ho).1
    omega
/-- What a crash leaves of a step. -/
theorem crash_step (g : Ground q P h l) (hq : ∀ i, 101 ≤ i → i < 201 → Quiet q (pg P i)) {e : DDisk} (he : e ∈ stepsI q P h l) (bs : List Bool) :
    GoodD e ∧ (Mid q P (apply (keptW e.writes bs) e.pages) ∨ apply (keptW e.writes bs) e.pages = P4 q P h l) := by
  have hn := g.fit.len
  unfold stepsI at he
  rw [List.mem_cons, List.mem_append, List.mem_cons, List.mem_append, List.mem_map, List.mem_map, List.mem_cons, List.mem_singleton] at he
  rcases he with rfl | ⟨k, _, rfl⟩ | rfl | ⟨k, _, rfl⟩ | rfl | rfl
  · exact ⟨g.good1 (Nat.zero_le _) (fun w hw => by cases hw), .inl (mid1 (ws := []) g hq (Nat.zero_le _) (fun w hw => by cases hw))⟩
  · have hl : ((frWs q P l).take (k + 1)).length ≤ 400 := by rw [List.length_take, frWs_length]; omega
    refine ⟨g.good1 hl (fun w hw => g.frw w (List.mem_of_mem_take hw)), .inl (mid1 g hq ?_ (fun w hw => List.mem_of_mem_take (keptW_sub _ _ w hw)))⟩
    exact Nat.le_trans (keptW_len _ _) hl
  · exact ⟨g.good2 (Nat.zero_le _) (fun w hw => by cases hw), .inl (mid2 (ws := []) g hq (Nat.zero_le _) (fun w hw => by cases hw))⟩
  · have hl : (l.take (k + 1)).length ≤ 400 := by rw [List.length_take]; omega
    refine ⟨g.good2 hl (fun w hw => g.okl w (List.mem_of_mem_take hw)), .inl (mid2 g hq ?_ (fun w hw => List.mem_of_mem_take (keptW_sub _ _ w hw)))⟩
    exact Nat.le_trans (keptW_len _ _) hl
  · exact ⟨⟨Nat.le_of_eq g.len3, Nat.zero_le _, g.size3, fun w hw => by cases hw⟩, .inl (mid2 (ws := l) g hq (by omega) (fun w hw => hw))⟩
  · refine ⟨good_put g.mayH, ?_⟩
    cases bs with
    | nil => exact .inl (mid2 (ws := l) g hq (by omega) (fun w hw => hw))
    | cons b bs =>
      cases b with
      | true => exact .inr rfl
      | false => exact .inl (mid2 (ws := l) g hq (by omega) (fun w hw => hw))
/-! ### Pages 1 to 100 -/
theorem seg_eq {A B : List ByteArray} (ha : A.length = 201) (hb : B.length = 201) (h : ∀ j, 1 ≤ j → j < 101 → pg A j = pg B j) : (A.take 101).drop 1 = (B.take 101).drop 1 := by
  apply List.ext_getElem?
  intro j
  rw [List.getElem?_drop, List.getElem?_drop, List.getElem?_take, List.getElem?_take]
  by_cases hj : 1 + j < 101
  · rw [if_pos hj, if_pos hj, List.getElem?_eq_getElem (by omega), List.getElem?_eq_getElem (by omega)]
    have := h (1 + j) (by omega) hj
    unfold pg at this
    rw [List.getD_eq_getElem?_getD, List.getD_eq_getElem?_getD, List.getElem?_eq_getElem (by omega), List.getElem?_eq_getElem (by omega)] at this
    exact congrArg some this
  · rw [if_neg hj, if_neg hj]
theorem seg_set (A : List ByteArray) (p : Nat) (s : ByteArray) (h1 : 1 ≤ p) (h2 : p < 101) : ((A.take 101).drop 1).set (p - 1) s = ((A.set p s).take 101).drop 1 := by
  apply List.ext_getElem?
  intro j
  rw [List.getElem?_set, List.getElem?_drop, List.getElem?_drop, List.getElem?_take, List.getElem?_take, List.getElem?_set, List.length_drop, List.length_take]
  by_cases e : p - 1 = j
  · rw [if_pos e, if_pos (show 1 + j < 101 by omega), if_pos (show p = 1 + j by omega)]
    by_cases hl : 1 + j < A.length
    · rw [if_pos (by omega), if_pos (show p < A.length by omega)]
    · rw [if_neg (by omega), if_neg (show ¬ p < A.length by omega)]
  · rw [if_neg e, if_neg (show ¬ p = 1 + j by omega)]
theorem seg_fold : ∀ (l : List DWrite) (A : List ByteArray), (∀ w ∈ l, 1 ≤ w.page ∧ w.page < 101) → l.foldl (fun x w => x.set (w.page - 1).toNat w.text) ((A.take 101).drop 1) = ((apply l A).take 101).drop 1
  | [], A, _ => rfl
  | w :: l, A, h => by
    have hw := h w (List.mem_cons_self)
    rw [List.foldl_cons, show (w.page - 1).toNat = w.page.toNat - 1 by omega, seg_set A w.page.toNat w.text (by omega) (by omega)]
    exact seg_fold l (put1 A w) (fun v hv => h v (List.mem_cons_of_mem _ hv))
theorem seg_len {A : List ByteArray} (ha : A.length = 201) : ((A.take 101).drop 1).length = 100 := by rw [List.length_drop, List.length_take, ha]; decide
theorem fold_len (l : List DWrite) (x : List ByteArray) : (l.foldl (fun x w => x.set (w.page - 1).toNat w.text) x).length = x.length := by
  induction l generalizing x with
  | nil => rfl
  | cons w l ih => rw [List.foldl_cons, ih, List.length_set]
theorem lslice_seg {A : List ByteArray} (ha : A.length = 201) : lslice A 1 101 = some ((A.take 101).drop 1) := by
  rw [lslice_ok (by decide) (by decide) (by rw [ha]; decide)]; rfl
end

theorem annalkeep_UndoWhole_true (F : Nat) [Big F] (d : DDisk) (h : ByteArray) (l : List DWrite) (n : Int) (kept : List Bool) (k0 : okDisk d) (k1 : okStr h) (k1_ : h.size ≤ reachBytes) (k2 : okAllW 24 okWrite l) (k3 : okInt .i64 n) (k4 : okAllW 1 (fun _ => True) kept) : annalkeep_UndoWhole F d h l n kept = some true := by
  have hb1 : kept.length ≤ 140737488351232 := by
    have := k4.1
    unfold reachBytes at this; omega
  unfold annalkeep_UndoWhole
  rw [show undo_Head F 0 (ByteArray.mk #[]) = some (hN 0 (ByteArray.mk #[]), 0) from head_eq 0 (by decide) (ByteArray.mk #[]) (by decide), obind, show makes 16 (201 : Int) = some () by decide, obind, idx_x0, obind]
  dsimp only
  have s1 := steps_x 0 (ByteArray.mk #[]) (ByteArray.mk #[97]) 1 (ByteArray.mk #[98]) (by decide) (by decide) (by decide) (by decide) (by decide) (by decide)
  show ((undo_Steps F (xH 0 (ByteArray.mk #[])) (ByteArray.mk #[97]) [⟨1, ByteArray.mk #[98]⟩]).bind _) = _
  rw [steps_good s1, obind]
  dsimp only
  rw [show (stepsR 0 (apply (xH 0 (ByteArray.mk #[])).writes (xH 0 (ByteArray.mk #[])).pages) (ByteArray.mk #[97]) [⟨1, ByteArray.mk #[98]⟩]).length = 7 from stepsR_length _ _ _ _, show ((0 : Int) != 0 || ((0 : Int) != 0 || (((7 : Nat) : Int) != 7))) = false by decide, cfalse]
  by_cases hs : ∃ q t, SeqOk d q t
  · obtain ⟨q, t, hs⟩ := hs
    have hd := recovered hs
    rw [recover_good hs, obind]
    generalize recR q (apply d.writes d.pages) 100 = P at hd ⊢
    dsimp only
    rw [show ((0 : Int) != 0) = false by decide, cfalse, seq_good hd.ok, obind]
    dsimp only
    by_cases hst : ∃ q' t', StepsOk ⟨P, []⟩ h l q' t'
    · obtain ⟨q', t', s⟩ := hst
      obtain ⟨rfl, rfl⟩ : q' = q ∧ t' = t := by
        have h1 := s.seq.head
        rw [hd.ok.head] at h1
        obtain ⟨e1, e2⟩ := Prod.mk.inj (Option.some.inj h1)
        exact ⟨e1.symm, e2.symm⟩
      have g : Ground q' P h l := s.ground
      have hq := hd.quiet
      have hn := s.fit.len
      have hlen := stepsR_length q' P h l
      have hm := s.more
      have hPl : P.length = 201 := hd.ok.len
      rw [show undo_Steps F ⟨P, []⟩ h l = some (stepsR q' P h l, 0) from steps_good s, obind]
      dsimp only
      rw [hlen, show ((0 : Int) != 0 || ((0 : Int) != 0 || (((2 * l.length + 5 : Nat) : Int) == 0))) = false by simp; omega, cfalse]
      obtain ⟨r, hr, hr1⟩ := within_eq (n := n) (m := ((2 * l.length + 5 : Nat) : Int)) (by omega) (by omega) k3
      rw [hr, obind]
      have hrl : r < 2 * l.length + 5 := by omega
      show ((idx (stepsR q' P h l) (r : Int)).bind _) = _
      rw [idx_nat]
      have two : ∃ e, (stepsR q' P h l)[r]? = some e ∧ GoodD e ∧ ((r < 2 * l.length + 4 ∧ Mid q' P (apply (keptW e.writes kept) e.pages)) ∨ apply (keptW e.writes kept) e.pages = P4 q' P h l) := by
        unfold stepsR
        by_cases hlast : r < 2 * l.length + 4
        · rw [List.getElem?_append_left (by rw [stepsI_length]; exact hlast), List.getElem?_eq_getElem (by rw [stepsI_length]; exact hlast)]
          obtain ⟨h1, h2⟩ := crash_step g hq (List.getElem_mem (show r < (stepsI q' P h l).length by rw [stepsI_length]; exact hlast)) kept
          exact ⟨_, rfl, h1, h2.imp (fun m => ⟨hlast, m⟩) id⟩
        · rw [List.getElem?_append_right (by rw [stepsI_length]; omega), stepsI_length, show r - (2 * l.length + 4) = 0 by omega]
          exact ⟨_, rfl, (seq_P4 g).good, .inr rfl⟩
      obtain ⟨e, he, hge, hcase⟩ := two
      rw [he, obind, disk_Crash_good hge kept (by omega), obind]
      dsimp only
      rw [show ((0 : Int) != 0) = false by decide, cfalse]
      have fin : ∃ (R : List ByteArray) (m : Nat) (x : ByteArray), undo_Recover F ⟨apply (keptW e.writes kept) e.pages, []⟩ = some (⟨R, []⟩, 0) ∧ SeqOk ⟨R, []⟩ m x ∧
          ((m = q' ∧ x = t' ∧ r < 2 * l.length + 4 ∧ (∀ j, 1 ≤ j → j < 101 → pg R j = pg P j)) ∨ (m = q' + 1 ∧ x = h ∧ ∀ j, 1 ≤ j → j < 101 → pg R j = pg (apply l P) j)) := by
        rcases hcase with ⟨hlt, m⟩ | h4
        · have hsq := mid_seq hd m
          exact ⟨_, _, _, recover_good hsq, (recovered hsq).ok, .inl ⟨rfl, rfl, hlt, fun j h1 h2 => mid_pages m j h1 h2⟩⟩
        · have hd4 := done4 g hq
          refine ⟨P4 q' P h l, q' + 1, h, ?_, hd4.ok, .inr ⟨rfl, rfl, fun j h1 h2 => ?_⟩⟩
          · rw [h4]; exact recover_done hd4
          · rw [pg_P4 g j (by omega), if_neg (by omega)]
            unfold P3
            rw [pg_apply (by rw [g.len2]; omega) (fun w hw => (g.okl w hw).1), pg_apply (by rw [g.len]; omega) (fun w hw => (g.okl w hw).1), pg_P2 g j h2]
      obtain ⟨R, m, x, h1, h2, h3⟩ := fin
      have hRl : R.length = 201 := h2.len
      rw [h1, obind]
      dsimp only
      rw [seq_good h2, obind]
      dsimp only
      rw [hRl, hPl, show ((0 : Int) != 0 || ((0 : Int) != 0 || (((201 : Nat) : Int) != ((201 : Nat) : Int)))) = false by decide, cfalse, lslice_seg hPl, obind, growD (by rw [seg_len hPl]; decide) (by rw [seg_len hPl]; decide), obind, obind, List.nil_append, lslice_seg hRl]
      rcases h3 with ⟨rfl, rfl, hlt, hp⟩ | ⟨rfl, rfl, hp⟩
      · rw [show ((m : Int) != (m : Int)) = false by simp, cfalse, obind, obind, eqStrs _ _ (by rw [seg_len hRl]; decide), obind, decide_eq_true (seg_eq hRl hPl hp), ctrue, show ((m : Int) == (m : Int)) = true by simp, ctrue, (seq_iff _ _).2 rfl, ctrue,
          wrap64 (n := ((2 * l.length + 5 : Nat) : Int) - 1) (by omega) (by omega), show ((r : Int) == ((2 * l.length + 5 : Nat) : Int) - 1) = false by rw [beq_eq_false_iff_ne]; omega, Bool.not_false, ctrue, obind]
      · rw [show (((q' + 1 : Nat) : Int) != (q' : Int)) = true by simp; omega, ctrue]
        rw [loop_fold (F := F) l (fun x w => x.set (w.page - 1).toNat w.text) ((P.take 101).drop 1) (r := l.foldl (fun x w => x.set (w.page - 1).toNat w.text) ((P.take 101).drop 1)) (by omega) rfl (fun k w hk => ?_) (by dsimp only; rw [decide_eq_false (by omega), cfalse]), obind, obind, obind]
        · rw [seg_fold l P g.fit.page, eqStrs _ _ (by rw [seg_len hRl]; decide), obind, decide_eq_true (seg_eq hRl (by rw [apply_length]; exact hPl) hp), ctrue, show (((q' + 1 : Nat) : Int) == (q' : Int)) = false by simp; omega, cfalse, wrap64 (n := (q' : Int) + 1) (by omega) (by omega), show (((q' + 1 : Nat) : Int) == (q' : Int) + 1) = true by rw [beq_iff_eq]; omega, ctrue, (seq_iff _ _).2 rfl, obind]
        · have hkl := (List.getElem?_eq_some_iff.1 hk).1
          have hw := g.fit.page w (List.mem_of_getElem? hk)
          dsimp only
          have hfl := fold_len (l.take k) ((P.take 101).drop 1)
          rw [seg_len hPl] at hfl
          rw [decide_eq_true (by omega), ctrue, idx_nat, hk, obind, wrap64 (n := w.page - 1) (by omega) (by omega), idx_pg (by omega) (by rw [hfl]; omega), obind, wrap64 (by omega) (by omega)]
    · obtain ⟨c, h0, hc⟩ := steps_bad (F := F) hst
      rw [hc, obind]
      dsimp only
      rw [nz' h0]
      rfl
  · obtain ⟨c, h0, hc⟩ := recover_bad (F := F) hs
    rw [hc, obind]
    dsimp only
    rw [nz' h0, ctrue]
    rfl
end Go.Proofs.Ytomgholekojenaa
