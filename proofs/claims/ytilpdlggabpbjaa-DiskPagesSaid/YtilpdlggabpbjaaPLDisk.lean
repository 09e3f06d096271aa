/- Plain Lean: the laws of disks. Its conditions: none. -/
import Derived.Test.YtilpdlggabpbjaaLawAF
import Derived.Test.YtilpdlggabpbjaaPDisk
namespace Go.Proofs.Ytilpdlggabpbjaa
open Go.ChangeShapes
set_option linter.unusedVariables false
set_option linter.unusedSimpArgs false

theorem seq_refl (s : ByteArray) : seq s s = true := (seq_iff s s).2 rfl
theorem n00 : ((0 : Int) != 0) = false := by decide
theorem e00 : ((0 : Int) == 0) = true := by decide
theorem nz {c : Int} (h : c ≠ 0) : (c != 0) = true := by simpa using h
theorem put_good {d : DDisk} {i : Int} {s : ByteArray} (h : MayPut d i s) : disk_Put d i s = some (⟨d.pages, d.writes ++ [⟨i, s⟩]⟩, 0) := by
  rcases disk_Put_eq d i s with ⟨_, h2⟩ | ⟨h1, _⟩
  · exact h2
  · exact absurd h h1
theorem read_good {d : DDisk} {i : Nat} (g : GoodD d) (hi : i < d.pages.length) : disk_Read d (i : Int) = some (seen d i, 0) := by
  rcases disk_Read_eq d i with ⟨_, _, _, h⟩ | ⟨h, _⟩
  · rw [h, Int.toNat_natCast]
  · exact absurd ⟨g, by omega, by omega⟩ h
theorem good_ab : MayPut ⟨[ByteArray.mk #[97], ByteArray.mk #[98]], []⟩ 1 (ByteArray.mk #[99]) := by
  refine ⟨⟨by decide, by decide, ?_, ?_⟩, by decide, by decide, by decide, by decide⟩
  · intro s hs
    simp at hs
    rcases hs with rfl | rfl <;> decide
  · intro w hw
    cases hw
theorem annalkeep_DiskApart_true (p0 : DDisk) (p1 p2 : Int) (p3 p4 : ByteArray) (k0 : okDisk p0) (k1 : (Lit.int .i64 p1).wf = true) (k2 : (Lit.int .i64 p2).wf = true) (k3 : okStr p3) (k3_ : p3.size ≤ reachBytes) (k4 : okStr p4) (k4_ : p4.size ≤ reachBytes) :
    annalkeep_DiskApart p0 p1 p2 p3 p4 = some true := by
  unfold annalkeep_DiskApart
  have r0 := read_good (i := 0) (good_put good_ab) (by decide)
  rw [seen_put, if_neg (by decide)] at r0
  have s0 : seen ⟨[ByteArray.mk #[97], ByteArray.mk #[98]], []⟩ 0 = ByteArray.mk #[97] := rfl
  rw [s0] at r0
  rw [put_good good_ab, obind]
  dsimp only at r0 ⊢
  rw [show disk_Read _ (0 : Int) = _ from r0, obind]
  dsimp only
  rw [n00, seq_refl, Bool.not_true, Bool.or_self, Bool.or_self, cfalse]
  rcases disk_Put_eq p0 p1 p3 with ⟨ha, h1⟩ | ⟨_, c, hc, h1⟩
  · rw [h1, obind]
    dsimp only
    rw [n00, cfalse]
    have ga := good_put ha
    rcases disk_Put_eq ⟨p0.pages, p0.writes ++ [⟨p1, p3⟩]⟩ p2 p4 with ⟨hb, h2⟩ | ⟨_, c, hc, h2⟩
    · rcases disk_Put_eq p0 p2 p4 with ⟨hc', h3⟩ | ⟨_, c, hc, h3⟩
      · rw [h2, obind, h3, obind]
        dsimp only
        by_cases hij : p1 = p2
        · rw [show (p1 == p2) = true by simpa using hij, Bool.or_true, Bool.or_true, ctrue]
        · rw [n00, show (p1 == p2) = false by simpa using hij, Bool.or_self, Bool.or_self, cfalse]
          have hlen : p0.writes.length + 1 < 400 := by have := hb.2.2.2.2; simpa using this
          have hx : MayPut ⟨p0.pages, p0.writes ++ [⟨p2, p4⟩]⟩ p1 p3 := ⟨good_put hc', ha.2.1, ha.2.2.1, ha.2.2.2.1, by simpa using hlen⟩
          rw [put_good hx, obind]
          dsimp only
          rw [n00, cfalse]
          refine iter_bind (fun k => (k : Int)) (r := .inl ()) p0.pages.length (by have := ha.1.np; omega) rfl rfl (fun k hk => ?_) ?_
          · have gb := good_put hb
            have gx := good_put hx
            have e1 := read_good (i := k) gb hk
            have e2 := read_good (i := k) gx hk
            have e3 := read_good (i := k) ha.1 hk
            rw [seen_put, seen_put] at e1
            rw [seen_put, seen_put] at e2
            dsimp only at e1 e2
            rw [decide_eq_true (show (k : Int) < (p0.pages.length : Int) by omega), ctrue, e1, obind, e2, obind, e3, obind]
            dsimp only
            rw [wrap64 (by omega) (by have := ha.1.np; omega)]
            by_cases q1 : p1 = (k : Int)
            · have q2 : ¬ p2 = (k : Int) := fun h => hij (q1.trans h.symm)
              have q3 : ¬ (k : Int) = p2 := fun h => q2 h.symm
              rw [if_neg q2, if_pos q1, if_pos q1]
              subst q1
              have b : ((k : Int) == p2) = false := by simpa using q3
              simp [seq_refl, q3, b]
            · have q1' : ¬ (k : Int) = p1 := fun h => q1 h.symm
              by_cases q2 : p2 = (k : Int)
              · rw [if_pos q2, if_neg q1, if_pos q2]
                subst q2
                have b : ((k : Int) == p1) = false := by simpa using q1'
                simp [seq_refl, q1', b]
              · have q2' : ¬ (k : Int) = p2 := fun h => q2 h.symm
                rw [if_neg q2, if_neg q1, if_neg q1, if_neg q2]
                have b : ((k : Int) == p1) = false := by simpa using q1'
                have b' : ((k : Int) == p2) = false := by simpa using q2'
                simp [seq_refl, q1', q2', b, b']
          · rw [decide_eq_false (by omega)]; rfl
      · rw [h2, obind, h3, obind]
        dsimp only
        rw [nz hc, Bool.true_or, Bool.or_true, ctrue]
    · rcases disk_Put_eq p0 p2 p4 with ⟨hc', h3⟩ | ⟨_, c', hc', h3⟩
      · rw [h2, obind, h3, obind]
        dsimp only
        rw [nz hc, Bool.true_or, ctrue]
      · rw [h2, obind, h3, obind]
        dsimp only
        rw [nz hc, Bool.true_or, ctrue]
  · rw [h1, obind]
    dsimp only
    rw [nz hc, ctrue, SameDisk_eq _ _ (by simp) (by simp) (by simp) (by simp), obind, decide_eq_true rfl]
end Go.Proofs.Ytilpdlggabpbjaa
