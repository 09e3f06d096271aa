/- Plain Lean: the law DirPast. Its conditions: none. -/
import Derived.Test.YtaccejbajgmdnaaDoorWDirPastF
import Derived.Test.YtaccejbajgmdnaaDoorPDir2
import Derived.Test.YtaccejbajgmdnaaDoorLaw
namespace Go.Proofs.YtaccejbajgmdnaaDoor
set_option linter.unusedVariables false
set_option linter.unusedSimpArgs false
variable {F : Nat} [Big F]
theorem ent_gone (e : DElem) (g : Int) : entS { e with gone := g } = entS e := rfl
theorem look_clo {p o t u : Int} {s : ByteArray} (hu : u < t) : ∀ h : List DElem, (clo h t).findSome? (fun e => (wD p o s u e).map (·.2)) = h.findSome? (fun e => (wD p o s u e).map (·.2))
  | [] => rfl
  | e :: h => by
    have ih := look_clo (p := p) (o := o) (s := s) hu h
    unfold clo at ih ⊢
    rw [List.filterMap_cons, List.findSome?_cons]
    unfold cl
    by_cases hg : e.gone = 0
    · rw [if_pos hg]
      by_cases hm : e.made = t
      · rw [if_pos hm]
        dsimp only
        have hn : wD p o s u e = none := wD_none fun hl => by
          have := (live_iff.1 hl).1; omega
        rw [hn]
        exact ih
      · rw [if_neg hm]
        dsimp only
        rw [List.findSome?_cons]
        have hw : (wD p o s u { e with gone := t }).map (·.2) = (wD p o s u e).map (·.2) := by
          have hl : live { e with gone := t } u = live e u := by
            rw [Bool.eq_iff_iff, live_iff, live_iff]
            dsimp only
            constructor
            · rintro ⟨h1, _⟩; exact ⟨h1, .inl hg⟩
            · rintro ⟨h1, _⟩; exact ⟨h1, .inr hu⟩
          unfold wD
          rw [hl, ent_gone]
          dsimp only
          split
          · rfl
          · split <;> rfl
        rw [hw]
        cases (wD p o s u e).map (·.2) with
        | none => exact ih
        | some r => rfl
    · rw [if_neg hg]
      dsimp only
      rw [List.findSome?_cons]
      cases (wD p o s u e).map (·.2) with
      | none => exact ih
      | some r => rfl
theorem fd_two (l : List DElem) (p o : Int) (s : ByteArray) (t : Int) : (fdD l p o s t).2 = (l.findSome? (fun e => (wD p o s t e).map (·.2))).getD (0, false) := by
  unfold fdD
  rw [findSome_map]
  cases l.findSome? (wD p o s t) with
  | none => rfl
  | some r => rfl
theorem find_past {l : List DElem} {k : DKey} {p o t u : Int} {s : List UInt8} (hr : Run l) (ht : lastL l ≤ t) (t0 : 1 ≤ t) (t1 : t ≤ 2147483647) (hu : u < t) : findD (cutR l k t) p o s u = findD l p o s u := by
  have hk : lookD (cutR l k t) p o = lookD l p o := by
    unfold lookD
    rw [if_neg (by simpa using chkR_zero.2 (hr.cutR ht t0 t1 k)), if_neg (by simpa using chkR_zero.2 hr)]
  have h2 : (fdD (cutR l k t) p o (ofL s) u).2 = (fdD l p o (ofL s) u).2 := by
    rw [fd_two, fd_two]
    exact congrArg (fun q => Option.getD q (0, false)) (look_upd _ hr.ord (look_clo hu (hist l k)).symm)
  unfold findD
  rw [hk, h2]
theorem annalkeep_DirPast_true (F : Nat) [Big F] (l : List DElem) (p o : Int) (s : ByteArray) (t v : Int) (_ : okAllW 56 okElem l) (_ : okInt .i64 p) (_ : okInt .i64 o) (_ : okStr s) (_ : s.size ≤ reachBytes) (_ : okInt .i64 t) (_ : okInt .i64 v) : annalkeep_DirPast F l p o s t v = some true := by
  obtain ⟨s, rfl⟩ : ∃ b, s = ofL b := ⟨s.data.toList, by simp [ofL]⟩
  unfold annalkeep_DirPast
  have r3 : Run (cutR [e0] K0 3) := run0.cutR (Int.le_trans last0 (by decide)) (by decide) (by decide) K0
  have h3 : findD (cutR [e0] K0 3) 0 1 [97, 98] 2 = (7, 0) := by
    unfold findD
    rw [if_neg (by simpa using lookD_zero.2 ⟨r3, by decide⟩), if_neg (by decide), cut3, find0 _ _ rfl rfl (live_iff.2 ⟨by decide, .inr (by decide)⟩)]
    rfl
  rw [add0, Option.bind_some]
  dsimp only
  rw [drop0 (by decide) (by decide), Option.bind_some]
  dsimp only
  rw [show (ByteArray.mk #[97, 98] : ByteArray) = ofL [97, 98] from rfl, dir_Find_eq, Option.bind_some, h3]
  rw [show (((0 : Int) != 0) || (((0 : Int) != 0) || (((0 : Int) != 0) || ((7 : Int) != 7)))) = false from rfl, cond_false]
  obtain ⟨m2, e2, ed, hbad, hd⟩ := drop_cases (F := F) l p o s t
  rw [ed, Option.bind_some]
  dsimp only
  by_cases h : e2 = 0
  · obtain ⟨hr, hk, hn, hf, hc, rfl⟩ := hd h
    obtain ⟨_, _, t0, t1, ht, _⟩ := cutE_zero.1 hc
    rw [bne0_false h, cond_false, w64 (n := t - 1) (by omega) (by omega), dir_Find_eq, Option.bind_some, dir_Find_eq, Option.bind_some, dir_Find_eq, Option.bind_some]
    have hu : (if t - 1 < v then t - 1 else v) < t := by split <;> omega
    rw [find_past hr ht t0 t1 hu]
    have h5 : (findD l p o s 2147483647).2 = 0 := by
      unfold findD
      rw [if_neg (by simpa using lookD_zero.2 ⟨hr, hk⟩), if_neg (by simp [hn]), if_neg (by simp [hf])]
    rw [h5]
    simp
  · rw [bne0_true h, cond_true, hbad h]; rfl
end Go.Proofs.YtaccejbajgmdnaaDoor
