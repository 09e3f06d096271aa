/- Plain Lean: groups of pages, recovered. Its conditions: none. -/
import Derived.Test.YtjhkfonoobmecaaUndoF
import Derived.Test.YtjhkfonoobmecaaFDisk
import Derived.Test.YtjhkfonoobmecaaLaw
namespace Go.Proofs.Ytjhkfonoobmecaa
set_option linter.unusedVariables false
set_option linter.unusedSimpArgs false
variable {F : Nat} [Big F]

def bl (s : ByteArray) : List UInt8 := s.data.toList
theorem ofL_bl (s : ByteArray) : ofL (bl s) = s := rfl
theorem bl_size (s : ByteArray) : (s.size : Int) = ((bl s).length : Int) := rfl
/-- What a page says that keeps what was: of which group, of which page, its text. -/
def oldF (s : ByteArray) : Option (Nat × Nat × ByteArray) :=
  if (fget (bl s)).2.2 = 0 ∧ (fget (bl s)).1.kind = 9 ∧ 8 ≤ (fget (bl s)).1.body.size then
    some (valL ((bl (fget (bl s)).1.body).take 4), valL (((bl (fget (bl s)).1.body).drop 4).take 4), ofL ((bl (fget (bl s)).1.body).drop 8))
  else none
/-- What a head says. -/
def headF (s : ByteArray) : Option (Nat × ByteArray) :=
  if (fget (bl s)).2.2 = 0 ∧ (fget (bl s)).1.kind = 8 ∧ 4 ≤ (fget (bl s)).1.body.size ∧ valL ((bl (fget (bl s)).1.body).take 4) ≤ 2147483647 then
    some (valL ((bl (fget (bl s)).1.body).take 4), ofL ((bl (fget (bl s)).1.body).drop 4))
  else none
theorem number_eq (l : List UInt8) (h : 4 ≤ l.length) : undo_number F (ofL l) = some ((valL (l.take 4) : Nat) : Int) := by
  unfold undo_number
  rw [sslice_ofL (by decide) (by decide) (by omega), obind, big_Get_ofL _ (by simp; omega), obind]
  simp
theorem four_eq (n : Nat) : undo_four F (n : Int) = some (ofL (bigL n 4)) := by
  unfold undo_four
  have := big_Put_eq (F := F) n 4 (by decide)
  rw [show ((4 : Nat) : Int) = 4 by rfl] at this
  rw [this, obind]
theorem nz' {c : Int} (h : c ≠ 0) : (c != 0) = true := by simpa using h
theorem check_good {d : DDisk} (g : GoodD d) : disk_Check F d = some 0 := by
  obtain ⟨c, hc, hg⟩ := disk_Check_spec (F := F) d
  rw [hc, hg.2 g]
theorem check_bad {d : DDisk} (g : ¬ GoodD d) : ∃ c : Int, c ≠ 0 ∧ disk_Check F d = some c := by
  obtain ⟨c, hc, hg⟩ := disk_Check_spec (F := F) d
  exact ⟨c, fun h => g (hg.1 h), hc⟩
theorem seen_size {d : DDisk} (g : GoodD d) (i : Nat) : (seen d i).size ≤ 3500 := by
  have key : ∀ ws : List DWrite, (∀ w ∈ ws, w.text.size ≤ 3500) → ∀ t, lastW ws (i : Int) = some t → t.size ≤ 3500 := by
    intro ws
    induction ws with
    | nil => intro _ t h; cases h
    | cons w ws ih =>
      intro hw t h
      rw [lastW] at h
      cases hl : lastW ws (i : Int) with
      | some u =>
        rw [hl] at h
        obtain rfl := Option.some.inj h
        exact ih (fun v hv => hw v (List.mem_cons_of_mem _ hv)) _ hl
      | none =>
        rw [hl] at h
        dsimp only at h
        split at h
        · obtain rfl := Option.some.inj h
          exact hw w (List.mem_cons_self)
        · cases h
  unfold seen
  cases hl : lastW d.writes (i : Int) with
  | some t => exact key _ (fun w hw => (g.writes w hw).2.2) t hl
  | none =>
    rw [Option.getD_none, List.getD_eq_getElem?_getD]
    cases hp : d.pages[i]? with
    | none => decide
    | some s => exact g.pages s (List.mem_of_getElem? hp)
/-! ### The number of a group -/
structure SeqOk (d : DDisk) (q : Nat) (t : ByteArray) : Prop where
  good : GoodD d
  len : d.pages.length = 201
  head : headF (seen d 0) = some (q, t)
theorem headF_some {s : ByteArray} {q : Nat} {t : ByteArray} (h : headF s = some (q, t)) : (fget (bl s)).2.2 = 0 ∧ (fget (bl s)).1.kind = 8 ∧ 4 ≤ (fget (bl s)).1.body.size ∧ q ≤ 2147483647 ∧
    q = valL ((bl (fget (bl s)).1.body).take 4) ∧ t = ofL ((bl (fget (bl s)).1.body).drop 4) := by
  unfold headF at h
  split at h
  · rename_i hc
    obtain ⟨h1, h2, h3, h4⟩ := hc
    obtain ⟨rfl, rfl⟩ := Prod.mk.inj (Option.some.inj h)
    exact ⟨h1, h2, h3, h4, rfl, rfl⟩
  · cases h
theorem seq_head (s : ByteArray) (hs : s.size ≤ 3500) (z : Int × ByteArray × Int) :
    ((frame_Get F s).bind fun r3 =>
      (
        bif (r3.2.2 != 0) then
            some true
          else
            bif (r3.1.kind != 8) then
              some true
            else
              bif decide ((r3.1.body.size : Int) < 4) then
                some true
              else
                (undo_number F r3.1.body).bind fun r4 =>
                some (decide ((2147483647 : Int) < r4)) : Option (Bool)).bind fun z1 =>
      bif z1 then
        some z
      else
        (undo_number F r3.1.body).bind fun r5 =>
        (sslice r3.1.body 4 (r3.1.body.size : Int)).bind fun s1 =>
        some (r5, s1, 0)) = some (match headF s with | some (q, t) => ((q : Int), t, 0) | none => z) := by
  have hg := frame_Get_eq (F := F) (bl s) (by have : (bl s).length = s.size := rfl; omega)
  rw [ofL_bl] at hg
  rw [hg, obind]
  unfold headF
  generalize fget (bl s) = f
  obtain ⟨⟨k, b⟩, n, e⟩ := f
  dsimp only
  by_cases h1 : e = 0
  · rw [show (e != 0) = false by simpa using h1, cfalse]
    by_cases h2 : k = 8
    · rw [show (k != 8) = false by simpa using h2, cfalse]
      by_cases h3 : 4 ≤ b.size
      · have hn := number_eq (F := F) (bl b) h3
        rw [ofL_bl] at hn
        rw [decide_eq_false (by omega), cfalse, hn, obind, obind]
        by_cases h4 : valL ((bl b).take 4) ≤ 2147483647
        · have hsl := sslice_ofL (l := bl b) (lo := 4) (hi := ((bl b).length : Int)) (by decide) (by have : b.size = (bl b).length := rfl; omega) (by omega)
          rw [Int.toNat_natCast, List.take_length, show Int.toNat 4 = 4 from rfl] at hsl
          rw [decide_eq_false (by omega), cfalse, obind, show sslice b 4 (b.size : Int) = sslice (ofL (bl b)) 4 ((bl b).length : Int) from rfl, hsl, obind, if_pos ⟨h1, h2, h3, h4⟩]
        · rw [decide_eq_true (by omega), ctrue, if_neg (fun h => h4 h.2.2.2)]
      · rw [decide_eq_true (by omega), ctrue, obind, ctrue, if_neg (fun h => h3 h.2.2.1)]
    · rw [show (k != 8) = true by simpa using h2, ctrue, obind, ctrue, if_neg (fun h => h2 h.2.1)]
  · rw [show (e != 0) = true by simpa using h1, ctrue, obind, ctrue, if_neg (fun h => h1 h.1)]
theorem seq_good {d : DDisk} {q : Nat} {t : ByteArray} (h : SeqOk d q t) : undo_Seq F d = some ((q : Int), t, 0) := by
  unfold undo_Seq
  have hs := disk_Seen_eq (F := F) d 0 (by rw [h.len]; decide) (by have := h.good.nw; omega)
  rw [show ((0 : Nat) : Int) = 0 by rfl] at hs
  rw [check_good h.good, obind, show ((0 : Int) != 0) = false by decide, cfalse, h.len, show (((201 : Nat) : Int) != 201) = false by decide, cfalse, hs, obind, seq_head (seen d 0) (seen_size h.good 0), h.head]
theorem seq_bad {d : DDisk} (h : ¬ ∃ q t, SeqOk d q t) : ∃ c : Int, c ≠ 0 ∧ undo_Seq F d = some (0, ByteArray.mk #[], c) := by
  unfold undo_Seq
  by_cases hg : GoodD d
  · rw [check_good hg, obind, show ((0 : Int) != 0) = false by decide, cfalse]
    by_cases hl : d.pages.length = 201
    · have hs := disk_Seen_eq (F := F) d 0 (by rw [hl]; decide) (by have := hg.nw; omega)
      rw [show ((0 : Nat) : Int) = 0 by rfl] at hs
      rw [hl, show (((201 : Nat) : Int) != 201) = false by decide, cfalse, hs, obind, seq_head (seen d 0) (seen_size hg 0)]
      cases hh : headF (seen d 0) with
      | none => exact ⟨11, by decide, rfl⟩
      | some x => exact absurd ⟨x.1, x.2, hg, hl, hh⟩ h
    · rw [show ((d.pages.length : Int) != 201) = true by simp; omega, ctrue]
      exact ⟨3, by decide, rfl⟩
  · obtain ⟨c, h0, hc⟩ := check_bad (F := F) hg
    rw [hc, obind, nz' h0, ctrue]
    exact ⟨c, h0, rfl⟩
theorem SeqOk.le {d : DDisk} {q : Nat} {t : ByteArray} (h : SeqOk d q t) : q ≤ 2147483647 := (headF_some h.head).2.2.2.1

/-! ### Recovery -/
def pg (ps : List ByteArray) (i : Nat) : ByteArray := ps.getD i (ofL [])
theorem pg_set (ps : List ByteArray) (i k : Nat) (s : ByteArray) (h : i < ps.length) : pg (ps.set i s) k = if i = k then s else pg ps k := by
  unfold pg
  rw [List.getD_eq_getElem?_getD, List.getD_eq_getElem?_getD, List.getElem?_set]
  by_cases e : i = k
  · rw [if_pos e, if_pos e, if_pos h]; rfl
  · rw [if_neg e, if_neg e]
def recStep (q : Nat) (ps : List ByteArray) (i : Nat) : List ByteArray :=
  match oldF (pg ps i) with
  | none => ps
  | some (n, p, t) => if n ≤ q then ps else (if n = q + 1 ∧ 1 ≤ p ∧ p < 101 then ps.set p t else ps).set i (ofL [])
def recR (q : Nat) (ps : List ByteArray) (k : Nat) : List ByteArray := (List.range' 101 k).foldl (recStep q) ps
theorem recStep_length (q : Nat) (ps : List ByteArray) (i : Nat) : (recStep q ps i).length = ps.length := by
  unfold recStep
  split
  · rfl
  · split
    · rfl
    · rw [List.length_set]; split
      · rw [List.length_set]
      · rfl
theorem recR_succ (q : Nat) (ps : List ByteArray) (k : Nat) : recR q ps (k + 1) = recStep q (recR q ps k) (101 + k) := by
  unfold recR
  rw [List.range'_concat, List.foldl_append]
  simp
theorem recR_length (q : Nat) (ps : List ByteArray) : ∀ k, (recR q ps k).length = ps.length
  | 0 => rfl
  | k + 1 => by rw [recR_succ, recStep_length, recR_length q ps k]
theorem oldF_size {s : ByteArray} {n p : Nat} {t : ByteArray} (h : oldF s = some (n, p, t)) : t.size ≤ 3000 := by
  unfold oldF at h
  split at h
  · rename_i hc
    obtain ⟨k, B, _, _, hB, _, hf, _⟩ := fput_fget hc.1
    have ht : t = ofL ((bl (fget (bl s)).1.body).drop 8) := (Prod.mk.inj (Prod.mk.inj (Option.some.inj h)).2).2.symm
    rw [ht, hf]
    show ((bl (ofL B)).drop 8).length ≤ 3000
    rw [List.length_drop]
    have : (bl (ofL B)).length = B.length := rfl
    omega
  · cases h
theorem oldF_empty : oldF (ofL []) = none := by
  unfold oldF
  rw [if_neg]
  intro h
  exact absurd h.1 (by decide)
theorem recStep_sizes (q : Nat) {ps : List ByteArray} (i : Nat) (h : ∀ s ∈ ps, s.size ≤ 3500) : ∀ s ∈ recStep q ps i, s.size ≤ 3500 := by
  intro s hs
  unfold recStep at hs
  split at hs
  · exact h s hs
  · rename_i n p t ho
    split at hs
    · exact h s hs
    · rcases List.mem_or_eq_of_mem_set hs with h1 | h1
      · split at h1
        · rcases List.mem_or_eq_of_mem_set h1 with h2 | h2
          · exact h s h2
          · rw [h2]; have := oldF_size ho; omega
        · exact h s h1
      · rw [h1]; decide
theorem recR_sizes (q : Nat) {ps : List ByteArray} (h : ∀ s ∈ ps, s.size ≤ 3500) : ∀ k, ∀ s ∈ recR q ps k, s.size ≤ 3500
  | 0 => h
  | k + 1 => by rw [recR_succ]; exact recStep_sizes q _ (recR_sizes q h k)
theorem pg_size {ps : List ByteArray} (h : ∀ s ∈ ps, s.size ≤ 3500) (i : Nat) : (pg ps i).size ≤ 3500 := by
  unfold pg
  rw [List.getD_eq_getElem?_getD]
  cases hp : ps[i]? with
  | none => decide
  | some s => exact h s (List.mem_of_getElem? hp)
theorem idx_pg {ps : List ByteArray} {i : Int} (h0 : 0 ≤ i) (h : i < ps.length) : idx ps i = some (pg ps i.toNat) := by
  unfold idx pg
  have : i.toNat < ps.length := by omega
  rw [if_neg (by omega), List.getD_eq_getElem?_getD, List.getElem?_eq_getElem this]; rfl
theorem rec_text (q : Nat) (hq : q ≤ 2147483647) (ps : List ByteArray) (hl : ps.length = 201) (hs : ∀ s ∈ ps, s.size ≤ 3500) (k : Nat) (hk : k < 100) :
    ((idx ps ((101 + k : Nat) : Int)).bind fun e3 =>
                    (frame_Get F e3).bind fun r6 =>
                    (
                      bif (r6.2.2 != 0) then
                          some true
                        else
                          bif (r6.1.kind != 9) then
                            some true
                          else
                            bif decide ((r6.1.body.size : Int) < 8) then
                              some true
                            else
                              (undo_number F r6.1.body).bind fun r7 =>
                              some (decide (r7 ≤ (q : Int))) : Option (Bool)).bind fun z7 =>
                    bif z7 then
                      some ps
                    else
                      (
                        (sslice r6.1.body 4 (r6.1.body.size : Int)).bind fun s3 =>
                          (undo_number F s3).bind fun r8 =>
                          (
                            (undo_number F r6.1.body).bind fun r9 =>
                              bif (r9 == (IntKind.i64.wrap ((q : Int) + 1))) then
                                bif decide ((1 : Int) ≤ r8) then
                                  some (decide (r8 < 101))
                                else
                                  some false
                              else
                                some false : Option (Bool)).bind fun z9 =>
                          bif z9 then
                            (sslice r6.1.body 8 (r6.1.body.size : Int)).bind fun s4 =>
                            (idx ps r8).bind fun e4 =>
                            some (ps.set r8.toNat s4)
                          else
                            some ps : Option ((List ByteArray))).bind fun z8 =>
                      (idx z8 ((101 + k : Nat) : Int)).bind fun e5 =>
                      some (z8.set ((101 + k : Nat) : Int).toNat (ByteArray.mk #[]))) = some (recStep q ps (101 + k)) := by
  have hsz := pg_size hs (101 + k)
  unfold recStep oldF
  rw [idx_pg (by omega) (by omega), obind, Int.toNat_natCast]
  generalize pg ps (101 + k) = s at hsz ⊢
  have hg := frame_Get_eq (F := F) (bl s) (by have : (bl s).length = s.size := rfl; omega)
  rw [ofL_bl] at hg
  rw [hg, obind]
  generalize fget (bl s) = f
  obtain ⟨⟨kd, b⟩, n, e⟩ := f
  dsimp only
  by_cases h1 : e = 0
  · rw [show (e != 0) = false by simpa using h1, cfalse]
    by_cases h2 : kd = 9
    · rw [show (kd != 9) = false by simpa using h2, cfalse]
      by_cases h3 : 8 ≤ b.size
      · have hbl : b.size = (bl b).length := rfl
        have hn := number_eq (F := F) (bl b) (by omega)
        rw [ofL_bl] at hn
        rw [decide_eq_false (by omega), cfalse, hn, obind, obind, if_pos ⟨h1, h2, h3⟩]
        dsimp only
        generalize hN : valL ((bl b).take 4) = N
        by_cases h4 : N ≤ q
        · rw [decide_eq_true (by omega), ctrue, if_pos h4]
        · have hsl := sslice_ofL (l := bl b) (lo := 4) (hi := ((bl b).length : Int)) (by decide) (by omega) (by omega)
          rw [Int.toNat_natCast, List.take_length, show Int.toNat 4 = 4 from rfl] at hsl
          have hsl8 := sslice_ofL (l := bl b) (lo := 8) (hi := ((bl b).length : Int)) (by decide) (by omega) (by omega)
          rw [Int.toNat_natCast, List.take_length, show Int.toNat 8 = 8 from rfl] at hsl8
          rw [decide_eq_false (by omega), cfalse, if_neg h4, show sslice b 4 (b.size : Int) = sslice (ofL (bl b)) 4 ((bl b).length : Int) from rfl, hsl, obind, number_eq ((bl b).drop 4) (by rw [List.length_drop]; omega), obind, obind,
            show sslice b 8 (b.size : Int) = sslice (ofL (bl b)) 8 ((bl b).length : Int) from rfl, hsl8, wrap64 (n := (q : Int) + 1) (by omega) (by omega)]
          generalize valL (((bl b).drop 4).take 4) = p
          by_cases h5 : N = q + 1 ∧ 1 ≤ p ∧ p < 101
          · rw [if_pos h5, show ((N : Int) == (q : Int) + 1) = true by rw [beq_iff_eq]; omega, ctrue, decide_eq_true (by omega), ctrue, decide_eq_true (by omega), obind, ctrue, obind, idx_pg (by omega) (by omega), obind, obind, Int.toNat_natCast, idx_pg (by omega) (by rw [List.length_set]; omega), obind]
            rfl
          · have hz : (bif ((N : Int) == (q : Int) + 1) then bif decide ((1 : Int) ≤ (p : Int)) then some (decide ((p : Int) < 101)) else some false else some false) = some false := by
              by_cases g1 : N = q + 1
              · rw [show ((N : Int) == (q : Int) + 1) = true by rw [beq_iff_eq]; omega, ctrue]
                by_cases g2 : 1 ≤ p
                · rw [decide_eq_true (by omega), ctrue, decide_eq_false (by omega)]
                · rw [decide_eq_false (by omega), cfalse]
              · rw [show ((N : Int) == (q : Int) + 1) = false by rw [beq_eq_false_iff_ne]; omega, cfalse]
            rw [if_neg h5, hz, obind, cfalse, obind, idx_pg (by omega) (by omega), obind]
            rfl
      · rw [decide_eq_true (by omega), ctrue, obind, ctrue, if_neg (fun h => h3 h.2.2)]
    · rw [show (kd != 9) = true by simpa using h2, ctrue, obind, ctrue, if_neg (fun h => h2 h.2.1)]
  · rw [show (e != 0) = true by simpa using h1, ctrue, obind, ctrue, if_neg (fun h => h1 h.1)]
theorem recover_good {d : DDisk} {q : Nat} {t : ByteArray} (h : SeqOk d q t) : undo_Recover F d = some (⟨recR q (apply d.writes d.pages) 100, []⟩, 0) := by
  unfold undo_Recover
  have hq := h.le
  have gp := h.good.np
  have hal : (apply d.writes d.pages).length = 201 := by rw [apply_length]; exact h.len
  have hsz := (good_sync h.good).pages
  rw [seq_good h, obind]
  dsimp only
  rw [show ((0 : Int) != 0) = false by decide, cfalse, check_good h.good, obind, show ((0 : Int) != 0) = false by decide, cfalse, growD (by simp; omega) (by simp; omega), obind, List.nil_append, sync_run h.good, obind, obind, obind]
  dsimp only
  refine iter_bindF (fun k => (recR q (apply d.writes d.pages) k, ((101 + k : Nat) : Int))) (r := recR q (apply d.writes d.pages) 100) 100 (by decide) rfl rfl (fun k hk => ?_) ?_
  · dsimp only
    have := rec_text (F := F) q hq (recR q (apply d.writes d.pages) k) (by rw [recR_length]; exact hal) (recR_sizes q hsz k) k hk
    rw [decide_eq_true (by omega), ctrue, this, obind, wrap64 (by omega) (by omega), recR_succ]
    rfl
  · dsimp only
    rw [decide_eq_false (by omega), cfalse]
theorem recover_bad {d : DDisk} (h : ¬ ∃ q t, SeqOk d q t) : ∃ c : Int, c ≠ 0 ∧ undo_Recover F d = some (⟨[], []⟩, c) := by
  obtain ⟨c, h0, hc⟩ := seq_bad (F := F) h
  unfold undo_Recover
  rw [hc, obind]
  dsimp only
  rw [nz' h0, ctrue]
  exact ⟨c, h0, rfl⟩
end Go.Proofs.Ytjhkfonoobmecaa
