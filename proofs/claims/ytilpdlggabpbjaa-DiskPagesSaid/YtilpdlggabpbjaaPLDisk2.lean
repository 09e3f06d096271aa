/- Plain Lean: the laws of disks, more. Its conditions: none. -/
import Derived.Test.YtilpdlggabpbjaaPLDisk
namespace Go.Proofs.Ytilpdlggabpbjaa
open Go.ChangeShapes
set_option linter.unusedVariables false
set_option linter.unusedSimpArgs false

theorem good_a : MayPut ⟨[ByteArray.mk #[97]], []⟩ 0 (ByteArray.mk #[98]) := by
  refine ⟨⟨by decide, by decide, ?_, ?_⟩, by decide, by decide, by decide, by decide⟩
  · intro s hs
    simp at hs
    subst hs; decide
  · intro w hw
    cases hw
theorem one_eq (s : ByteArray) : annalkeep_one s = some ⟨[s], []⟩ := rfl
theorem keptW_nil (ws : List DWrite) : keptW ws [] = [] := by cases ws <;> rfl
theorem keptW_all : ∀ ws : List DWrite, keptW ws (List.replicate ws.length true) = ws
  | [] => rfl
  | w :: ws => by
    rw [List.length_cons, List.replicate_succ, keptW, keptW_all ws]; rfl
theorem fill_loop (n : Nat) (hn : n ≤ 1000000) {τ : Type} (K : List Bool → Option τ) (q : τ) (hK : K (List.replicate n true) = some q) (m : Int) (hm : m = n) :
    (iter (σ := (List Bool) × Int) (ρ := (List Bool)) (fun x => match x with
            | (x1, x2) =>
              bif decide (x2 < ((List.replicate (m.toNat) (false : Bool)).length : Int)) then
                  (idx x1 x2).bind fun e1 =>
                  some (.inl ((x1.set x2.toNat true), IntKind.i64.wrap (x2 + 1)))
                else
                  some (.inr x1)) FUEL ((List.replicate (m.toNat) (false : Bool)), 0)).bind K = some q := by
  subst hm
  have hlen : ((List.replicate ((n : Int).toNat) false).length : Int) = n := by simp
  refine iter_bind (fun k => (List.replicate k true ++ List.replicate (n - k) false, (k : Int))) n (by omega) (by simp) hK (fun k hk => ?_) ?_
  · dsimp only
    rw [hlen, decide_eq_true (show (k : Int) < (n : Int) by omega), ctrue, idx_nat, List.getElem?_append_right (by simp), List.length_replicate, Nat.sub_self, List.getElem?_replicate, if_pos (by omega), obind, wrap64 (by omega) (by omega), Int.toNat_natCast,
      List.set_append_right _ _ (by simp), List.length_replicate, Nat.sub_self, show n - k = (n - (k + 1)) + 1 by omega, List.replicate_succ, List.set_cons_zero, List.replicate_succ']
    simp
  · dsimp only
    rw [hlen, decide_eq_false (by omega), cfalse]; simp
theorem annalkeep_DiskTwice_true (p0 : DDisk) (p1 : Int) (p2 : ByteArray) (k0 : okDisk p0) (k1 : (Lit.int .i64 p1).wf = true) (k2 : okStr p2) (k2_ : p2.size ≤ reachBytes) : annalkeep_DiskTwice p0 p1 p2 = some true := by
  unfold annalkeep_DiskTwice
  have gp := good_put good_a
  have e1 := put_good good_a
  have e2 := disk_Crash_good gp [] (by decide)
  rw [keptW_nil] at e2
  dsimp only at e1 e2
  have e3 : annalref_SameDisk ⟨apply [] [ByteArray.mk #[97]], []⟩ ⟨[ByteArray.mk #[97]], []⟩ = some true := by
    rw [SameDisk_eq _ _ (by decide) (by decide) (by decide) (by decide)]; rfl
  rw [one_eq, obind, e1, obind]
  dsimp only
  rw [show disk_Crash _ ([] : List Bool) = _ from e2, obind]
  dsimp only
  rw [n00, cfalse, cfalse, obind, e3, obind, Bool.not_true, obind, cfalse]
  -- whichever disk it is
  have main : ∀ d : DDisk, (∀ x, x = d → (disk_Check (DDisk.mk x.pages x.writes)).bind (fun r7 =>
        bif (r7 != 0) then
          some true
        else
          (makes 1 (x.writes.length : Int)).bind fun u7 =>
          (iter (σ := (List Bool) × Int) (ρ := (List Bool)) (fun y => match y with
            | (x1, x2) =>
              bif decide (x2 < ((List.replicate ((x.writes.length : Int).toNat) (false : Bool)).length : Int)) then
                  (idx x1 x2).bind fun e1 =>
                  some (.inl ((x1.set x2.toNat true), IntKind.i64.wrap (x2 + 1)))
                else
                  some (.inr x1)) FUEL ((List.replicate ((x.writes.length : Int).toNat) (false : Bool)), 0)).bind fun z4 =>
          (disk_Sync (DDisk.mk x.pages x.writes)).bind fun r9 =>
          (disk_Sync r9.1).bind fun r10 =>
          (disk_Crash (DDisk.mk x.pages x.writes) z4).bind fun r11 =>
          (disk_Crash (DDisk.mk x.pages x.writes) ([] : List Bool)).bind fun r12 =>
          (
            bif (r9.2 == 0) then
                bif (r10.2 == 0) then
                  bif (r11.2 == 0) then
                    bif (r12.2 == 0) then
                      (annalref_SameDisk r9.1 r10.1).bind fun r13 =>
                      bif r13 then
                        (annalref_SameDisk r9.1 r11.1).bind fun r14 =>
                        bif r14 then
                          (slices_Equal_string r12.1.pages x.pages).bind fun r15 =>
                          some r15
                        else
                          some false
                      else
                        some false
                    else
                      some false
                  else
                    some false
                else
                  some false
              else
                some false : Option (Bool)).bind fun z5 =>
          some z5) = some true) := fun d x _ => by
    obtain ⟨c, hc, hg⟩ := disk_Check_spec x
    rw [show disk_Check (DDisk.mk x.pages x.writes) = _ from hc, obind]
    by_cases h0 : c = 0
    · subst h0
      have g := hg.1 rfl
      have g2 := good_sync g
      have hnp := g.np
      have hnw := g.nw
      rw [n00, cfalse, makes1 (by omega) (by omega), obind]
      refine fill_loop x.writes.length (by omega) _ true ?_ _ rfl
      have s1 := disk_Sync_good g
      have s2 := disk_Sync_good g2
      have c1 := disk_Crash_good g (List.replicate x.writes.length true) (by simp; omega)
      have c2 := disk_Crash_good g [] (by decide)
      rw [keptW_all] at c1
      rw [keptW_nil] at c2
      dsimp only at s2
      have hal := apply_length x.writes x.pages
      rw [show disk_Sync (DDisk.mk x.pages x.writes) = _ from s1, obind]
      dsimp only
      rw [s2, obind, show disk_Crash (DDisk.mk x.pages x.writes) (List.replicate x.writes.length true) = _ from c1, obind, show disk_Crash (DDisk.mk x.pages x.writes) [] = _ from c2, obind]
      dsimp only
      rw [e00, ctrue, ctrue, ctrue, ctrue]
      have a0 : ∀ ps, apply [] ps = ps := fun _ => rfl
      rw [a0, a0, SameDisk_eq _ _ (by dsimp only; omega) (by simp) (by dsimp only; omega) (by simp), decide_eq_true rfl, obind, ctrue, obind, ctrue, slices_Equal_string_eq _ _ (by omega) (by omega), decide_eq_true rfl, obind, obind]
    · rw [nz h0, ctrue]
  rcases disk_Put_eq p0 p1 p2 with ⟨ha, h1⟩ | ⟨_, c, hc, h1⟩
  · rw [h1, obind]
    dsimp only
    rw [n00, cfalse, obind]
    exact main ⟨p0.pages, p0.writes ++ [⟨p1, p2⟩]⟩ _ rfl
  · rw [h1, obind]
    dsimp only
    rw [nz hc, ctrue, obind]
    exact main p0 _ rfl
end Go.Proofs.Ytilpdlggabpbjaa
