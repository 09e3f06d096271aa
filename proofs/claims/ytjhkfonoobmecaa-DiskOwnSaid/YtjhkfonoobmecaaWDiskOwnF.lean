/- What the law DiskOwn asks for. Its conditions: none. -/
import Derived.Test.YtjhkfonoobmecaaDiskF
import Derived.Test.YtjhkfonoobmecaaUndoF
import Derived.Test.YtjhkfonoobmecaaStepF
import Derived.Test.YtjhkfonoobmecaaEqsF
import Derived.Test.YtjhkfonoobmecaaTreeO
namespace Go.Proofs.Ytjhkfonoobmecaa
set_option linter.unusedVariables false
def fitsD (F : Nat) (d : DDisk) : Bool := decide (d.pages.length ≤ 100000) && decide (d.writes.length ≤ 100000) && (annalref_SameDisk F d d == some true)
def annalkeep_DiskOwn (F : Nat) (p0 : DDisk) (p1 : Int) (p2 : ByteArray) (p3 : List DWrite) : Option Bool :=
  (roomN 16 (p0.pages.length + 3)).bind fun _ =>
  (roomN 24 (p0.writes.length + 3)).bind fun _ =>
  (disk_Put F p0 p1 p2).bind fun r1 =>
  (disk_Sync F p0).bind fun r2 =>
  (disk_Crash F p0 [true]).bind fun r3 =>
  (undo_Recover F p0).bind fun r4 =>
  (undo_Steps F p0 p2 p3).bind fun r5 =>
  (disk_Put F (DDisk.mk [ByteArray.mk #[97]] []) 0 (ByteArray.mk #[98])).bind fun r6 =>
  bif (annalref_SameDisk F p0 p0 == some true) && (r1.1 :: r2.1 :: r3.1 :: r4.1 :: r5.1.take 9).all (fitsD F) && (r6.2 == 0) && ((r6.1.writes.length : Int) == 1) then some true else none
theorem bif_none {b : Bool} {r : Bool} (h : (bif b then some true else none) = some r) : b = true ∧ r = true := by
  cases b with
  | true => exact ⟨rfl, (Option.some.inj h).symm⟩
  | false => cases h
end Go.Proofs.Ytjhkfonoobmecaa
