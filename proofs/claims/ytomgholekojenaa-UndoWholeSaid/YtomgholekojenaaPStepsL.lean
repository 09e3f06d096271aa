/- Plain Lean: what the laws of groups share. Its conditions: none. -/
import Derived.Test.YtomgholekojenaaPSteps
namespace Go.Proofs.Ytomgholekojenaa
set_option linter.unusedVariables false
set_option linter.unusedSimpArgs false
variable {F : Nat} [Big F]

theorem stepsI_length (q : Nat) (P : List ByteArray) (h : ByteArray) (l : List DWrite) : (stepsI q P h l).length = 2 * l.length + 4 := by unfold stepsI; simp; omega
theorem stepsR_length (q : Nat) (P : List ByteArray) (h : ByteArray) (l : List DWrite) : (stepsR q P h l).length = 2 * l.length + 5 := by unfold stepsR; rw [List.length_append, stepsI_length]; rfl
theorem hN_head (q : Nat) (hq : q ≤ 2147483647) (h : ByteArray) (hh : h.size ≤ 2900) : headF (hN q h) = some (q, h) := by
  have hl : (bl h).length = h.size := rfl
  have hf := fget_fput 8 (bigL q 4 ++ bl h) [] (by decide) (by decide) (by rw [List.length_append, bigL_length]; omega)
  rw [List.append_nil] at hf
  have hv : valL ((bigL q 4 ++ bl h).take 4) = q := by
    rw [List.take_left' (bigL_length _ _), valL_big]; exact Nat.mod_eq_of_lt (by omega)
  have hd : (bigL q 4 ++ bl h).drop 4 = bl h := List.drop_left' (bigL_length _ _)
  unfold headF
  have e1 : fget (bl (hN q h)) = (⟨(8 : Nat), ofL (bigL q 4 ++ bl h)⟩, (((bigL q 4 ++ bl h).length + 5 : Nat) : Int), 0) := hf
  have e2 : bl (ofL (bigL q 4 ++ bl h)) = bigL q 4 ++ bl h := rfl
  rw [e1]
  dsimp only
  rw [e2, hv, hd, if_pos ⟨rfl, rfl, by rw [ofL_size, List.length_append, bigL_length]; omega, by omega⟩]
  rfl
theorem oldB_old (q : Nat) (hq : q < 2147483647) (P : List ByteArray) (p : Nat) (hp : p < 4294967296) (hs : (pg P p).size ≤ 2900) : oldF (ofL (fput 9 (oldB q P p))) = some (q + 1, p, pg P p) := by
  have hl : (bl (pg P p)).length = (pg P p).size := rfl
  have hf := fget_fput 9 (oldB q P p) [] (by decide) (by decide) (by rw [oldB_length]; omega)
  rw [List.append_nil] at hf
  have h4 : (bigL (q + 1) 4 ++ bigL p 4 ++ bl (pg P p)) = bigL (q + 1) 4 ++ (bigL p 4 ++ bl (pg P p)) := List.append_assoc ..
  have hv : valL ((oldB q P p).take 4) = q + 1 := by
    unfold oldB
    rw [h4, List.take_left' (bigL_length _ _), valL_big]; exact Nat.mod_eq_of_lt (by omega)
  have hd : (oldB q P p).drop 4 = bigL p 4 ++ bl (pg P p) := by unfold oldB; rw [h4]; exact List.drop_left' (bigL_length _ _)
  have hv2 : valL (((oldB q P p).drop 4).take 4) = p := by
    rw [hd, List.take_left' (bigL_length _ _), valL_big]; exact Nat.mod_eq_of_lt (by omega)
  have hd8 : (oldB q P p).drop 8 = bl (pg P p) := by
    have : (oldB q P p).drop 8 = ((oldB q P p).drop 4).drop 4 := by rw [List.drop_drop]
    rw [this, hd]; exact List.drop_left' (bigL_length _ _)
  unfold oldF
  have e1 : fget (bl (ofL (fput 9 (oldB q P p)))) = (⟨(9 : Nat), ofL (oldB q P p)⟩, (((oldB q P p).length + 5 : Nat) : Int), 0) := hf
  have e2 : bl (ofL (oldB q P p)) = oldB q P p := rfl
  rw [e1]
  dsimp only
  rw [e2, hv, hv2, hd8, if_pos ⟨rfl, rfl, by rw [ofL_size, oldB_length]; omega⟩]
  rfl
section
variable {q : Nat} {P : List ByteArray} {h : ByteArray} {l : List DWrite}
theorem Ground.len4 (g : Ground q P h l) : (P4 q P h l).length = 201 := by unfold P4; rw [apply_length]; exact g.len3
theorem pg_P2 (g : Ground q P h l) (j : Nat) (hj : j < 101) : pg (P2 q P l) j = pg P j := by
  unfold P2
  rw [pg_apply (by rw [g.len]; omega) (fun w hw => (g.frw w hw).1), lastW_not, Option.getD_none]
  intro w hw
  obtain ⟨k, _, rfl⟩ := mem_frWs.1 hw
  show ((101 + k : Nat) : Int) ≠ (j : Int)
  omega
theorem lastW_one {l : List DWrite} (h1 : l.Pairwise fun a b => a.page ≠ b.page) {w : DWrite} (hw : w ∈ l) : lastW l w.page = some w.text := by
  induction l with
  | nil => cases hw
  | cons v l ih =>
    rw [List.pairwise_cons] at h1
    rw [lastW]
    rcases List.mem_cons.1 hw with rfl | hw
    · rw [lastW_not fun u hu e => h1.1 u hu e.symm]
      dsimp only
      rw [if_pos rfl]
    · rw [ih h1.2 hw]
theorem pg_P2_at (g : Ground q P h l) (k : Nat) (hk : k < l.length) : pg (P2 q P l) (101 + k) = ofL (fput 9 (oldB q P (l[k]).page.toNat)) := by
  unfold P2
  have := g.fit.len
  rw [pg_apply (by rw [g.len]; omega) (fun w hw => (g.frw w hw).1)]
  have hone : (frWs q P l).Pairwise fun a b => a.page ≠ b.page := by
    rw [List.pairwise_iff_getElem]
    intro i j hi hj hij
    rw [frWs_length] at hi hj
    have e1 := frWs_get q P l i hi
    have e2 := frWs_get q P l j hj
    rw [List.getElem?_eq_getElem (by rw [frWs_length]; exact hi)] at e1
    rw [List.getElem?_eq_getElem (by rw [frWs_length]; exact hj)] at e2
    rw [Option.some.inj e1, Option.some.inj e2]
    show ((101 + i : Nat) : Int) ≠ ((101 + j : Nat) : Int)
    omega
  have := lastW_one hone (mem_frWs.2 ⟨k, hk, rfl⟩)
  rw [show (frW q P k l[k]).page = ((101 + k : Nat) : Int) from rfl] at this
  rw [this]; rfl
theorem pg_P2_far (g : Ground q P h l) (j : Nat) (hj : 101 + l.length ≤ j) (hj2 : j < 201) : pg (P2 q P l) j = pg P j := by
  unfold P2
  rw [pg_apply (by rw [g.len]; omega) (fun w hw => (g.frw w hw).1), lastW_not, Option.getD_none]
  intro w hw
  obtain ⟨k, _, rfl⟩ := mem_frWs.1 hw
  show ((101 + k : Nat) : Int) ≠ (j : Int)
  omega
theorem pg_P3_of (g : Ground q P h l) {w : DWrite} (hw : w ∈ l) : pg (P3 q P l) w.page.toNat = w.text := by
  have hp := g.fit.page w hw
  unfold P3
  rw [pg_apply (by rw [g.len2]; omega) (fun w hw => (g.okl w hw).1), show ((w.page.toNat : Nat) : Int) = w.page by omega, lastW_one g.fit.one hw]; rfl
theorem pg_P3_other (g : Ground q P h l) (j : Nat) (hj : j < 201) (hne : ∀ w ∈ l, w.page ≠ (j : Int)) : pg (P3 q P l) j = pg (P2 q P l) j := by
  unfold P3
  rw [pg_apply (by rw [g.len2]; exact hj) (fun w hw => (g.okl w hw).1), lastW_not hne]; rfl
theorem pg_P4 (g : Ground q P h l) (j : Nat) (hj : j < 201) : pg (P4 q P h l) j = if j = 0 then hB q h else pg (P3 q P l) j := by
  unfold P4
  rw [pg_apply (by rw [g.len3]; exact hj) (fun w hw => by rw [List.mem_singleton.1 hw]; exact Int.le_refl _)]
  show (lastW [⟨0, hB q h⟩] (j : Int)).getD _ = _
  rw [lastW, lastW]
  dsimp only
  by_cases h0 : j = 0
  · rw [if_pos h0, if_pos (by omega)]; rfl
  · rw [if_neg h0, if_neg (by omega)]; rfl
theorem pg4_of (g : Ground q P h l) {w : DWrite} (hw : w ∈ l) : pg (P4 q P h l) w.page.toNat = w.text := by
  have hp := g.fit.page w hw
  rw [pg_P4 g _ (by omega), if_neg (by omega), pg_P3_of g hw]
theorem pg4_other (g : Ground q P h l) (j : Nat) (h1 : 1 ≤ j) (hj : j < 101) (hne : ∀ w ∈ l, w.page ≠ (j : Int)) : pg (P4 q P h l) j = pg P j := by
  rw [pg_P4 g j (by omega), if_neg (by omega), pg_P3_other g j (by omega) hne, pg_P2 g j hj]
theorem idx_last (g : Ground q P h l) (n : Nat) (hn : (stepsR q P h l).length = n) {i : Int} (hi : i = (n : Int) - 1 := by first | rfl | decide) : idx (stepsR q P h l) i = some ⟨P4 q P h l, []⟩ := by
  subst hi
  rw [stepsR_length] at hn
  have : ((n : Int) - 1) = ((2 * l.length + 4 : Nat) : Int) := by omega
  rw [this, idx_nat]
  unfold stepsR
  rw [List.getElem?_append_right (by rw [stepsI_length]; exact Nat.le_refl _), stepsI_length, Nat.sub_self]; rfl
theorem Ground.size4 (g : Ground q P h l) : ∀ s ∈ P4 q P h l, s.size ≤ 3500 := (good_sync (good_put g.mayH)).pages
theorem seq_P4 (g : Ground q P h l) : SeqOk ⟨P4 q P h l, []⟩ (q + 1) h := by
  refine ⟨⟨Nat.le_of_eq g.len4, Nat.zero_le _, g.size4, fun w h => by cases h⟩, g.len4, ?_⟩
  rw [seen_clean, pg_P4 g 0 (by decide), if_pos rfl]
  exact hN_head (q + 1) g.more h g.fit.head
end
/-! ### The disk that the laws begin with -/
def xH (q : Nat) (h : ByteArray) : DDisk := ⟨(List.replicate 201 (ofL [])).set 0 (hN q h), []⟩
theorem idx_x0 : idx (List.replicate ((201 : Int).toNat) ((ByteArray.mk #[]) : ByteArray)) 0 = some (ByteArray.mk #[]) := by
  unfold idx
  rw [if_neg (by decide)]
  show (List.replicate 201 (ByteArray.mk #[]))[0]? = _
  rw [List.getElem?_replicate, if_pos (by decide)]
theorem pg_x0 (j : Nat) : pg (List.replicate 201 (ofL [])) j = ofL [] := by
  unfold pg
  rw [List.getD_eq_getElem?_getD, List.getElem?_replicate]
  split <;> rfl
theorem xH_seq (q : Nat) (h : ByteArray) (hq : q ≤ 2147483647) (hh : h.size ≤ 2900) : SeqOk (xH q h) q h := by
  have hl : (xH q h).pages.length = 201 := by show ((List.replicate 201 (ofL [])).set 0 (hN q h)).length = 201; rw [List.length_set, List.length_replicate]
  refine ⟨⟨Nat.le_of_eq hl, Nat.zero_le _, fun s hs => ?_, fun w hw => by cases hw⟩, hl, ?_⟩
  · rcases List.mem_or_eq_of_mem_set hs with h1 | h1
    · rw [List.eq_of_mem_replicate h1]; decide
    · rw [h1]
      show (fput 8 (bigL q 4 ++ bl h)).length ≤ 3500
      have e : (bl h).length = h.size := rfl
      rw [fput_length, List.length_append, bigL_length]; omega
  · show headF (pg ((List.replicate 201 (ofL [])).set 0 (hN q h)) 0) = _
    rw [pg_set _ _ _ _ (by rw [List.length_replicate]; decide), if_pos rfl]
    exact hN_head q hq h hh
theorem steps_x (q : Nat) (h h' : ByteArray) (p : Int) (t : ByteArray) (hq : q < 2147483647) (hh : h.size ≤ 2900) (hh' : h'.size ≤ 2900) (p0 : 1 ≤ p) (p1 : p < 101) (ht : t.size ≤ 2900) : StepsOk (xH q h) h' [⟨p, t⟩] q h := by
  refine ⟨xH_seq q h (by omega) hh, ⟨hh', by show (1 : Nat) ≤ 100; decide, fun w hw => by rw [List.mem_singleton.1 hw]; exact ⟨p0, p1⟩, fun w hw => by rw [List.mem_singleton.1 hw]; exact ht, List.pairwise_singleton _ _⟩, fun w hw => ?_, hq⟩
  rw [List.mem_singleton.1 hw]
  show (pg ((List.replicate 201 (ofL [])).set 0 (hN q h)) p.toNat).size ≤ 2900
  rw [pg_set _ _ _ _ (by rw [List.length_replicate]; decide), if_neg (by omega), pg_x0]
  decide
theorem lslice1 {α : Type} {l : List α} (h : 1 ≤ l.length) : lslice l 1 (l.length : Int) = some (l.drop 1) := lslice_from (k := 1) h
theorem fold_seen (j : Int) : ∀ (ws : List DWrite) (x : ByteArray), ws.foldl (fun x w => if w.page = j then w.text else x) x = (lastW ws j).getD x
  | [], x => rfl
  | w :: ws, x => by
    rw [List.foldl_cons, fold_seen j ws, lastW]
    cases lastW ws j with
    | some t => rfl
    | none =>
      dsimp only
      split <;> rfl
end Go.Proofs.Ytomgholekojenaa
